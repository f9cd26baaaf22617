/- Contracts of functions of the seat, proved over the engine. No condition. -/
import Derived.Test.YtjnghfepojipiaaXxA
import Derived.Test.YtjnghfepojipiaaEnH
set_option linter.unusedSimpArgs false
set_option linter.unusedVariables false
set_option linter.unnecessarySimpa false
namespace Go.Ax
set_option maxRecDepth 20000
set_option maxHeartbeats 4000000
def K_l02PairX (P : Program) (f : Nat) : Prop := AFP P f
def uR (g : Int × Int) (l : Int) : U := .bx 4 [.sg [.pw 3000000001 0 0, .im none (eI g.1), .im none (eI g.2), .im none (eI l)]]

def Drn (g : Int × Int) (cond : Bool) (s : Int) (d : Nat) (e : Ex) : Prop := treeE g e = true ∧ fitE e ∧ (cond = true → condE e = true) ∧ 1 ≤ sizeE e ∧ (sizeE e : Int) ≤ s ∧ depthE e ≤ d
def leafX (k n : Int) : Ex := .mk k n (some true) []
theorem eE_leafX {k n : Int} : eE (leafX k n) = .ag [.sc (.int .i64 k), .sc (.int .i64 n), .ls (some true) 3 []] := by unfold leafX; rw [eE_mk]; rfl
theorem leafX_size {k n : Int} : sizeE (leafX k n) = 1 := by unfold leafX; rw [sizeE_mk]; simp [sizeEs]
theorem leaf_drn {g : Int × Int} {k n : Int} {cond : Bool} (hk : k = 1 ∨ k = 2 ∨ (k = 3 ∧ 0 < g.1) ∨ (k = 4 ∧ 0 < g.2 ∧ cond = false)) (h1 : k = 1 ∨ k = 2 → n = 0) (h3 : k = 3 → 0 ≤ n ∧ n < g.1) (h4 : k = 4 → 0 ≤ n ∧ n < g.2) (hg : okG g = true) : Drn g cond 1 1 (leafX k n) := by
 have hb : 0 ≤ g.1 ∧ g.1 ≤ 3 ∧ 0 ≤ g.2 ∧ g.2 ≤ 4 := by simp [okG, isIn] at hg; omega
 have w1 := wrap_i64 (x := g.1 - 1) (by omega) (by omega)
 have w2 := wrap_i64 (x := g.2 - 1) (by omega) (by omega)
 refine ⟨?_, by unfold leafX; rw [fitE_mk]; simp, ?_, by rw [leafX_size]; omega, by rw [leafX_size]; simp, by unfold leafX; rw [depthE_mk]; simp [depthEs]⟩
 ·unfold leafX
  rw [treeE_mk]
  rcases hk with rfl | rfl | ⟨rfl, _⟩ | ⟨rfl, _, _⟩
  ·have := h1 (.inl rfl); subst this; simp [formOk, kidsN]
  ·have := h1 (.inr rfl); subst this; simp [formOk, kidsN]
  ·have := h3 rfl; simp [formOk, kidsN, w1, isIn]; omega
  ·have := h4 rfl; simp [formOk, kidsN, w2, isIn]; omega
 ·intro hc
  unfold leafX
  rcases hk with rfl | rfl | ⟨rfl, _⟩ | ⟨rfl, _, h⟩
  ·simp [condE, isCondK, condEs]
  ·simp [condE, isCondK, condEs]
  ·simp [condE, isCondK, condEs]
  ·rw [hc] at h; cases h

def k_genLeaf (f1 f2 : Nat) : RC := (.seq (.reg false [⟨none, .zer 4 3 (.ag [(.sc (.int .i64 0)), (.sc (.int .i64 0)), (.ls (some true) 3 [])])⟩]) ((.seq ((.seq (.reg false [⟨none, .mv 5 (.t 1)⟩, ⟨none, .un 6 .not (.t 5)⟩, ⟨none, .mv 7 (.t 6)⟩, ⟨some (7, true), .mv 8 (.t 0)⟩, ⟨some (7, true), .nck 9 (.t 8)⟩, ⟨some (7, true), .fa 10 1 (.t 9)⟩, ⟨some (7, true), .fa 11 1 (.t 10)⟩, ⟨some (7, true), .ld 12 false 1 (.t 11)⟩, ⟨some (7, true), .bin 13 .gtr (.t 12) (.c (.sc (.int .i64 0)))⟩, ⟨none, .pick 14 (.t 7) (.t 13) (.c (.sc (.bool false)))⟩, ⟨none, .mv 15 (.t 14)⟩, ⟨some (15, true), .mv 16 (.t 0)⟩, ⟨some (15, true), .nck 17 (.t 16)⟩, ⟨some (15, true), .fa 18 0 (.t 17)⟩, ⟨some (15, true), .ld 19 false 1 (.t 18)⟩, ⟨some (15, true), .wcl (some 20) f1 [(.t 19), (.c (.sc (.int .i64 3)))]⟩, ⟨some (15, true), .un 21 .not (.t 20)⟩, ⟨none, .pick 22 (.t 15) (.t 21) (.c (.sc (.bool false)))⟩]) (.cond (.t 22) ((.seq (.reg true [⟨none, .mv 23 (.t 0)⟩, ⟨none, .nck 24 (.t 23)⟩, ⟨none, .fa 25 0 (.t 24)⟩, ⟨none, .ld 26 false 1 (.t 25)⟩, ⟨none, .mv 27 (.t 0)⟩, ⟨none, .nck 28 (.t 27)⟩, ⟨none, .fa 29 1 (.t 28)⟩, ⟨none, .fa 30 1 (.t 29)⟩, ⟨none, .ld 31 false 1 (.t 30)⟩, ⟨none, .wcl (some 32) f2 [(.t 26), (.t 31)]⟩, ⟨none, .bld 33 (.ag [(.sc (.int .i64 0)), (.sc (.int .i64 0)), (.ls (some true) 3 [])]) [(0, 1, (.c (.sc (.int .i64 4)))), (1, 1, (.t 32))]⟩, ⟨none, .st 3 (.t 4) (.t 33)⟩]) (.ret))) (.skip)))) ((.seq ((.seq (.reg false [⟨none, .mv 34 (.t 0)⟩, ⟨none, .nck 35 (.t 34)⟩, ⟨none, .fa 36 1 (.t 35)⟩, ⟨none, .fa 37 0 (.t 36)⟩, ⟨none, .ld 38 false 1 (.t 37)⟩, ⟨none, .bin 39 .gtr (.t 38) (.c (.sc (.int .i64 0)))⟩, ⟨none, .mv 40 (.t 39)⟩, ⟨some (40, true), .mv 41 (.t 0)⟩, ⟨some (40, true), .nck 42 (.t 41)⟩, ⟨some (40, true), .fa 43 0 (.t 42)⟩, ⟨some (40, true), .ld 44 false 1 (.t 43)⟩, ⟨some (40, true), .wcl (some 45) f1 [(.t 44), (.c (.sc (.int .i64 4)))]⟩, ⟨some (40, true), .un 46 .not (.t 45)⟩, ⟨none, .pick 47 (.t 40) (.t 46) (.c (.sc (.bool false)))⟩]) (.cond (.t 47) ((.seq (.reg true [⟨none, .mv 48 (.t 0)⟩, ⟨none, .nck 49 (.t 48)⟩, ⟨none, .fa 50 0 (.t 49)⟩, ⟨none, .ld 51 false 1 (.t 50)⟩, ⟨none, .mv 52 (.t 0)⟩, ⟨none, .nck 53 (.t 52)⟩, ⟨none, .fa 54 1 (.t 53)⟩, ⟨none, .fa 55 0 (.t 54)⟩, ⟨none, .ld 56 false 1 (.t 55)⟩, ⟨none, .wcl (some 57) f2 [(.t 51), (.t 56)]⟩, ⟨none, .bld 58 (.ag [(.sc (.int .i64 0)), (.sc (.int .i64 0)), (.ls (some true) 3 [])]) [(0, 1, (.c (.sc (.int .i64 3)))), (1, 1, (.t 57))]⟩, ⟨none, .st 3 (.t 4) (.t 58)⟩]) (.ret))) (.skip)))) ((.seq (.reg false [⟨none, .mv 59 (.t 0)⟩, ⟨none, .nck 60 (.t 59)⟩, ⟨none, .fa 61 0 (.t 60)⟩, ⟨none, .ld 62 false 1 (.t 61)⟩, ⟨none, .wcl (some 63) f2 [(.t 62), (.c (.sc (.int .i64 2)))]⟩, ⟨none, .bin 64 .add (.c (.sc (.int .i64 1))) (.t 63)⟩, ⟨none, .bld 65 (.ag [(.sc (.int .i64 0)), (.sc (.int .i64 0)), (.ls (some true) 3 [])]) [(0, 1, (.t 64))]⟩, ⟨none, .st 3 (.t 4) (.t 65)⟩]) (.ret))))))))
def K_genLeaf (P : Program) (fno : Nat) : Prop := ∀ (nn : Option Bool) (c : List Int) (a sd : Int) (g : Int × Int) (l : Int) (cond : Bool), srcOk c → okG g = true → 0 ≤ a → a ≤ 300000000 → ∃ a' sd' e, a ≤ a' ∧ a' ≤ a + 6 ∧ Drn g cond 1 1 e ∧ AFW P fno [uR g l, uS nn c a sd] [.pb 3000000000 0, .im none (eB cond)] [uR g l, uS nn c a' sd'] (.own (eE e))
theorem a_genLeaf {P : Program} (hm : P.follows .mixedOrders = true) {g f1 f2 : Nat} (hr : resF P g = some (66, k_genLeaf f1 f2, [.c 4 3 true])) (hc1 : K_srcOne P f1) (hc2 : K_srcPick P f2) : K_genLeaf P g := by
 intro nn c a sd g l cond hc hg h0 hA
 have hb : 0 ≤ g.1 ∧ g.1 ≤ 3 ∧ 0 ≤ g.2 ∧ g.2 ≤ 4 := by simp [okG, isIn] at hg; omega
 cases cond
 ·by_cases hA2 : g.2 > 0
  ·obtain ⟨a1, sd1, b1, p1, p2, hP1⟩ := hc1 nn c a sd 3 hc h0 (by omega)
   cases b1
   ·obtain ⟨a2, sd2, x2, q1, q2, q3, q4, q5, hP2⟩ := hc2 nn c a1 sd1 g.2 hc (by omega) (by omega)
    have hx : x2 < g.2 := (Int.lt_or_le 1 g.2).elim (fun h => q5 h) (fun h => by have := q4 h; omega)
    refine ⟨a2, sd2, leafX 4 x2, by omega, by omega, leaf_drn (.inr (.inr (.inr ⟨rfl, hA2, rfl⟩))) (by omega) (by omega) (fun _ => ⟨q3, hx⟩) hg, ?_⟩
    refine afw_of_res (wv := .no) hr hm rfl rfl rfl fun hb ha => ?_
    simp +contextual -implicitDefEqProofs only [k_genLeaf, uS, uR, srcD, eI, eB, eE_leafX, hA2, D.size, D.sizeL, D.isAg, go_sem, ↓reduceIte, Nat.reduceEqDiff, Nat.reduceAdd, Nat.reduceLeDiff, Nat.reduceBneDiff, Nat.reduceLT]
    refine wcl_self [3000000001] [] (by rfl) (by rfl) (by rfl) hP1 rfl (by simp [wOut, outU, uS, srcD, noPtrs, D.noPtr, shWL, AV.shW, posW, shUs, U.shW, St.unit, lu]) ?_
    simp +contextual -implicitDefEqProofs only [uS, srcD, eB, D.size, D.isAg, go_sem, ↓reduceIte, Nat.reduceEqDiff, Nat.reduceAdd, Nat.reduceLeDiff, Nat.reduceLT]
    refine wcl_self [3000000001] [] (by rfl) (by rfl) (by rfl) hP2 rfl (by simp [wOut, outU, uS, srcD, noPtrs, D.noPtr, shWL, AV.shW, posW, shUs, U.shW, St.unit, lu]) ?_
    simp +contextual -implicitDefEqProofs only [uS, srcD, eI, D.put, D.cells, D.size, D.sizeL, D.isAg, D.sub, modeOf, noPtrs, go_sem, ↓reduceIte, Nat.reduceEqDiff, Nat.reduceAdd, Nat.reduceLeDiff, Nat.reduceBEq, Nat.reduceBneDiff, Nat.reduceLT, Nat.reduceSub]
   ·by_cases hT : g.1 > 0
    ·obtain ⟨a3, sd3, b3, r1, r2, hP3⟩ := hc1 nn c a1 sd1 4 hc (by omega) (by omega)
     cases b3
     ·obtain ⟨a4, sd4, x4, s1, s2, s3, s4, s5, hP4⟩ := hc2 nn c a3 sd3 g.1 hc (by omega) (by omega)
      have hx : x4 < g.1 := (Int.lt_or_le 1 g.1).elim (fun h => s5 h) (fun h => by have := s4 h; omega)
      refine ⟨a4, sd4, leafX 3 x4, by omega, by omega, leaf_drn (.inr (.inr (.inl ⟨rfl, hT⟩))) (by omega) (fun _ => ⟨s3, hx⟩) (by omega) hg, ?_⟩
      refine afw_of_res (wv := .no) hr hm rfl rfl rfl fun hb ha => ?_
      simp +contextual -implicitDefEqProofs only [k_genLeaf, uS, uR, srcD, eI, eB, eE_leafX, hA2, D.size, D.sizeL, D.isAg, go_sem, ↓reduceIte, Nat.reduceEqDiff, Nat.reduceAdd, Nat.reduceLeDiff, Nat.reduceBneDiff, Nat.reduceLT]
      refine wcl_self [3000000001] [] (by rfl) (by rfl) (by rfl) hP1 rfl (by simp [wOut, outU, uS, srcD, noPtrs, D.noPtr, shWL, AV.shW, posW, shUs, U.shW, St.unit, lu]) ?_
      simp +contextual -implicitDefEqProofs only [uS, srcD, eB, hT, D.size, D.isAg, go_sem, ↓reduceIte, Nat.reduceEqDiff, Nat.reduceAdd, Nat.reduceLeDiff, Nat.reduceLT]
      refine wcl_self [3000000001] [] (by rfl) (by rfl) (by rfl) hP3 rfl (by simp [wOut, outU, uS, srcD, noPtrs, D.noPtr, shWL, AV.shW, posW, shUs, U.shW, St.unit, lu]) ?_
      simp +contextual -implicitDefEqProofs only [uS, srcD, eB, D.size, D.isAg, go_sem, ↓reduceIte, Nat.reduceEqDiff, Nat.reduceAdd, Nat.reduceLeDiff, Nat.reduceLT]
      refine wcl_self [3000000001] [] (by rfl) (by rfl) (by rfl) hP4 rfl (by simp [wOut, outU, uS, srcD, noPtrs, D.noPtr, shWL, AV.shW, posW, shUs, U.shW, St.unit, lu]) ?_
      simp +contextual -implicitDefEqProofs only [uS, srcD, eI, D.put, D.cells, D.size, D.sizeL, D.isAg, D.sub, modeOf, noPtrs, go_sem, ↓reduceIte, Nat.reduceEqDiff, Nat.reduceAdd, Nat.reduceLeDiff, Nat.reduceBEq, Nat.reduceBneDiff, Nat.reduceLT, Nat.reduceSub]
     ·obtain ⟨a4, sd4, x4, s1, s2, s3, s4, s5, hP4⟩ := hc2 nn c a3 sd3 2 hc (by omega) (by omega)
      have s5 := s5 (by omega)
      have w := wrap_i64 (x := 1 + x4) (by omega) (by omega)
      refine ⟨a4, sd4, leafX (1 + x4) 0, by omega, by omega, leaf_drn (by omega) (fun _ => rfl) (by omega) (by omega) hg, ?_⟩
      refine afw_of_res (wv := .no) hr hm rfl rfl rfl fun hb ha => ?_
      simp +contextual -implicitDefEqProofs only [k_genLeaf, uS, uR, srcD, eI, eB, eE_leafX, hA2, D.size, D.sizeL, D.isAg, go_sem, ↓reduceIte, Nat.reduceEqDiff, Nat.reduceAdd, Nat.reduceLeDiff, Nat.reduceBneDiff, Nat.reduceLT]
      refine wcl_self [3000000001] [] (by rfl) (by rfl) (by rfl) hP1 rfl (by simp [wOut, outU, uS, srcD, noPtrs, D.noPtr, shWL, AV.shW, posW, shUs, U.shW, St.unit, lu]) ?_
      simp +contextual -implicitDefEqProofs only [uS, srcD, eB, hT, D.size, D.isAg, go_sem, ↓reduceIte, Nat.reduceEqDiff, Nat.reduceAdd, Nat.reduceLeDiff, Nat.reduceLT]
      refine wcl_self [3000000001] [] (by rfl) (by rfl) (by rfl) hP3 rfl (by simp [wOut, outU, uS, srcD, noPtrs, D.noPtr, shWL, AV.shW, posW, shUs, U.shW, St.unit, lu]) ?_
      simp +contextual -implicitDefEqProofs only [uS, srcD, eB, D.size, D.isAg, go_sem, ↓reduceIte, Nat.reduceEqDiff, Nat.reduceAdd, Nat.reduceLeDiff, Nat.reduceLT]
      refine wcl_self [3000000001] [] (by rfl) (by rfl) (by rfl) hP4 rfl (by simp [wOut, outU, uS, srcD, noPtrs, D.noPtr, shWL, AV.shW, posW, shUs, U.shW, St.unit, lu]) ?_
      simp +contextual -implicitDefEqProofs only [uS, srcD, eI, w, D.put, D.cells, D.size, D.sizeL, D.isAg, D.sub, modeOf, noPtrs, go_sem, ↓reduceIte, Nat.reduceEqDiff, Nat.reduceAdd, Nat.reduceLeDiff, Nat.reduceBEq, Nat.reduceBneDiff, Nat.reduceLT, Nat.reduceSub]
    ·obtain ⟨a4, sd4, x4, s1, s2, s3, s4, s5, hP4⟩ := hc2 nn c a1 sd1 2 hc (by omega) (by omega)
     have s5 := s5 (by omega)
     have w := wrap_i64 (x := 1 + x4) (by omega) (by omega)
     refine ⟨a4, sd4, leafX (1 + x4) 0, by omega, by omega, leaf_drn (by omega) (fun _ => rfl) (by omega) (by omega) hg, ?_⟩
     refine afw_of_res (wv := .no) hr hm rfl rfl rfl fun hb ha => ?_
     simp +contextual -implicitDefEqProofs only [k_genLeaf, uS, uR, srcD, eI, eB, eE_leafX, hA2, D.size, D.sizeL, D.isAg, go_sem, ↓reduceIte, Nat.reduceEqDiff, Nat.reduceAdd, Nat.reduceLeDiff, Nat.reduceBneDiff, Nat.reduceLT]
     refine wcl_self [3000000001] [] (by rfl) (by rfl) (by rfl) hP1 rfl (by simp [wOut, outU, uS, srcD, noPtrs, D.noPtr, shWL, AV.shW, posW, shUs, U.shW, St.unit, lu]) ?_
     simp +contextual -implicitDefEqProofs only [uS, srcD, eB, hT, D.size, D.isAg, go_sem, ↓reduceIte, Nat.reduceEqDiff, Nat.reduceAdd, Nat.reduceLeDiff, Nat.reduceLT]
     refine wcl_self [3000000001] [] (by rfl) (by rfl) (by rfl) hP4 rfl (by simp [wOut, outU, uS, srcD, noPtrs, D.noPtr, shWL, AV.shW, posW, shUs, U.shW, St.unit, lu]) ?_
     simp +contextual -implicitDefEqProofs only [uS, srcD, eI, w, D.put, D.cells, D.size, D.sizeL, D.isAg, D.sub, modeOf, noPtrs, go_sem, ↓reduceIte, Nat.reduceEqDiff, Nat.reduceAdd, Nat.reduceLeDiff, Nat.reduceBEq, Nat.reduceBneDiff, Nat.reduceLT, Nat.reduceSub]
  ·by_cases hT : g.1 > 0
   ·obtain ⟨a3, sd3, b3, r1, r2, hP3⟩ := hc1 nn c a sd 4 hc (by omega) (by omega)
    cases b3
    ·obtain ⟨a4, sd4, x4, s1, s2, s3, s4, s5, hP4⟩ := hc2 nn c a3 sd3 g.1 hc (by omega) (by omega)
     have hx : x4 < g.1 := (Int.lt_or_le 1 g.1).elim (fun h => s5 h) (fun h => by have := s4 h; omega)
     refine ⟨a4, sd4, leafX 3 x4, by omega, by omega, leaf_drn (.inr (.inr (.inl ⟨rfl, hT⟩))) (by omega) (fun _ => ⟨s3, hx⟩) (by omega) hg, ?_⟩
     refine afw_of_res (wv := .no) hr hm rfl rfl rfl fun hb ha => ?_
     simp +contextual -implicitDefEqProofs only [k_genLeaf, uS, uR, srcD, eI, eB, eE_leafX, hA2, hT, D.size, D.sizeL, D.isAg, go_sem, ↓reduceIte, Nat.reduceEqDiff, Nat.reduceAdd, Nat.reduceLeDiff, Nat.reduceBneDiff, Nat.reduceLT]
     refine wcl_self [3000000001] [] (by rfl) (by rfl) (by rfl) hP3 rfl (by simp [wOut, outU, uS, srcD, noPtrs, D.noPtr, shWL, AV.shW, posW, shUs, U.shW, St.unit, lu]) ?_
     simp +contextual -implicitDefEqProofs only [uS, srcD, eB, D.size, D.isAg, go_sem, ↓reduceIte, Nat.reduceEqDiff, Nat.reduceAdd, Nat.reduceLeDiff, Nat.reduceLT]
     refine wcl_self [3000000001] [] (by rfl) (by rfl) (by rfl) hP4 rfl (by simp [wOut, outU, uS, srcD, noPtrs, D.noPtr, shWL, AV.shW, posW, shUs, U.shW, St.unit, lu]) ?_
     simp +contextual -implicitDefEqProofs only [uS, srcD, eI, D.put, D.cells, D.size, D.sizeL, D.isAg, D.sub, modeOf, noPtrs, go_sem, ↓reduceIte, Nat.reduceEqDiff, Nat.reduceAdd, Nat.reduceLeDiff, Nat.reduceBEq, Nat.reduceBneDiff, Nat.reduceLT, Nat.reduceSub]
    ·obtain ⟨a4, sd4, x4, s1, s2, s3, s4, s5, hP4⟩ := hc2 nn c a3 sd3 2 hc (by omega) (by omega)
     have s5 := s5 (by omega)
     have w := wrap_i64 (x := 1 + x4) (by omega) (by omega)
     refine ⟨a4, sd4, leafX (1 + x4) 0, by omega, by omega, leaf_drn (by omega) (fun _ => rfl) (by omega) (by omega) hg, ?_⟩
     refine afw_of_res (wv := .no) hr hm rfl rfl rfl fun hb ha => ?_
     simp +contextual -implicitDefEqProofs only [k_genLeaf, uS, uR, srcD, eI, eB, eE_leafX, hA2, hT, D.size, D.sizeL, D.isAg, go_sem, ↓reduceIte, Nat.reduceEqDiff, Nat.reduceAdd, Nat.reduceLeDiff, Nat.reduceBneDiff, Nat.reduceLT]
     refine wcl_self [3000000001] [] (by rfl) (by rfl) (by rfl) hP3 rfl (by simp [wOut, outU, uS, srcD, noPtrs, D.noPtr, shWL, AV.shW, posW, shUs, U.shW, St.unit, lu]) ?_
     simp +contextual -implicitDefEqProofs only [uS, srcD, eB, D.size, D.isAg, go_sem, ↓reduceIte, Nat.reduceEqDiff, Nat.reduceAdd, Nat.reduceLeDiff, Nat.reduceLT]
     refine wcl_self [3000000001] [] (by rfl) (by rfl) (by rfl) hP4 rfl (by simp [wOut, outU, uS, srcD, noPtrs, D.noPtr, shWL, AV.shW, posW, shUs, U.shW, St.unit, lu]) ?_
     simp +contextual -implicitDefEqProofs only [uS, srcD, eI, w, D.put, D.cells, D.size, D.sizeL, D.isAg, D.sub, modeOf, noPtrs, go_sem, ↓reduceIte, Nat.reduceEqDiff, Nat.reduceAdd, Nat.reduceLeDiff, Nat.reduceBEq, Nat.reduceBneDiff, Nat.reduceLT, Nat.reduceSub]
   ·obtain ⟨a4, sd4, x4, s1, s2, s3, s4, s5, hP4⟩ := hc2 nn c a sd 2 hc (by omega) (by omega)
    have s5 := s5 (by omega)
    have w := wrap_i64 (x := 1 + x4) (by omega) (by omega)
    refine ⟨a4, sd4, leafX (1 + x4) 0, by omega, by omega, leaf_drn (by omega) (fun _ => rfl) (by omega) (by omega) hg, ?_⟩
    refine afw_of_res (wv := .no) hr hm rfl rfl rfl fun hb ha => ?_
    simp +contextual -implicitDefEqProofs only [k_genLeaf, uS, uR, srcD, eI, eB, eE_leafX, hA2, hT, D.size, D.sizeL, D.isAg, go_sem, ↓reduceIte, Nat.reduceEqDiff, Nat.reduceAdd, Nat.reduceLeDiff, Nat.reduceBneDiff, Nat.reduceLT]
    refine wcl_self [3000000001] [] (by rfl) (by rfl) (by rfl) hP4 rfl (by simp [wOut, outU, uS, srcD, noPtrs, D.noPtr, shWL, AV.shW, posW, shUs, U.shW, St.unit, lu]) ?_
    simp +contextual -implicitDefEqProofs only [uS, srcD, eI, w, D.put, D.cells, D.size, D.sizeL, D.isAg, D.sub, modeOf, noPtrs, go_sem, ↓reduceIte, Nat.reduceEqDiff, Nat.reduceAdd, Nat.reduceLeDiff, Nat.reduceBEq, Nat.reduceBneDiff, Nat.reduceLT, Nat.reduceSub]
 ·by_cases hT : g.1 > 0
  ·obtain ⟨a3, sd3, b3, r1, r2, hP3⟩ := hc1 nn c a sd 4 hc (by omega) (by omega)
   cases b3
   ·obtain ⟨a4, sd4, x4, s1, s2, s3, s4, s5, hP4⟩ := hc2 nn c a3 sd3 g.1 hc (by omega) (by omega)
    have hx : x4 < g.1 := (Int.lt_or_le 1 g.1).elim (fun h => s5 h) (fun h => by have := s4 h; omega)
    refine ⟨a4, sd4, leafX 3 x4, by omega, by omega, leaf_drn (.inr (.inr (.inl ⟨rfl, hT⟩))) (by omega) (fun _ => ⟨s3, hx⟩) (by omega) hg, ?_⟩
    refine afw_of_res (wv := .no) hr hm rfl rfl rfl fun hb ha => ?_
    simp +contextual -implicitDefEqProofs only [k_genLeaf, uS, uR, srcD, eI, eB, eE_leafX, hT, D.size, D.sizeL, D.isAg, go_sem, ↓reduceIte, Nat.reduceEqDiff, Nat.reduceAdd, Nat.reduceLeDiff, Nat.reduceBneDiff, Nat.reduceLT]
    refine wcl_self [3000000001] [] (by rfl) (by rfl) (by rfl) hP3 rfl (by simp [wOut, outU, uS, srcD, noPtrs, D.noPtr, shWL, AV.shW, posW, shUs, U.shW, St.unit, lu]) ?_
    simp +contextual -implicitDefEqProofs only [uS, srcD, eB, D.size, D.isAg, go_sem, ↓reduceIte, Nat.reduceEqDiff, Nat.reduceAdd, Nat.reduceLeDiff, Nat.reduceLT]
    refine wcl_self [3000000001] [] (by rfl) (by rfl) (by rfl) hP4 rfl (by simp [wOut, outU, uS, srcD, noPtrs, D.noPtr, shWL, AV.shW, posW, shUs, U.shW, St.unit, lu]) ?_
    simp +contextual -implicitDefEqProofs only [uS, srcD, eI, D.put, D.cells, D.size, D.sizeL, D.isAg, D.sub, modeOf, noPtrs, go_sem, ↓reduceIte, Nat.reduceEqDiff, Nat.reduceAdd, Nat.reduceLeDiff, Nat.reduceBEq, Nat.reduceBneDiff, Nat.reduceLT, Nat.reduceSub]
   ·obtain ⟨a4, sd4, x4, s1, s2, s3, s4, s5, hP4⟩ := hc2 nn c a3 sd3 2 hc (by omega) (by omega)
    have s5 := s5 (by omega)
    have w := wrap_i64 (x := 1 + x4) (by omega) (by omega)
    refine ⟨a4, sd4, leafX (1 + x4) 0, by omega, by omega, leaf_drn (by omega) (fun _ => rfl) (by omega) (by omega) hg, ?_⟩
    refine afw_of_res (wv := .no) hr hm rfl rfl rfl fun hb ha => ?_
    simp +contextual -implicitDefEqProofs only [k_genLeaf, uS, uR, srcD, eI, eB, eE_leafX, hT, D.size, D.sizeL, D.isAg, go_sem, ↓reduceIte, Nat.reduceEqDiff, Nat.reduceAdd, Nat.reduceLeDiff, Nat.reduceBneDiff, Nat.reduceLT]
    refine wcl_self [3000000001] [] (by rfl) (by rfl) (by rfl) hP3 rfl (by simp [wOut, outU, uS, srcD, noPtrs, D.noPtr, shWL, AV.shW, posW, shUs, U.shW, St.unit, lu]) ?_
    simp +contextual -implicitDefEqProofs only [uS, srcD, eB, D.size, D.isAg, go_sem, ↓reduceIte, Nat.reduceEqDiff, Nat.reduceAdd, Nat.reduceLeDiff, Nat.reduceLT]
    refine wcl_self [3000000001] [] (by rfl) (by rfl) (by rfl) hP4 rfl (by simp [wOut, outU, uS, srcD, noPtrs, D.noPtr, shWL, AV.shW, posW, shUs, U.shW, St.unit, lu]) ?_
    simp +contextual -implicitDefEqProofs only [uS, srcD, eI, w, D.put, D.cells, D.size, D.sizeL, D.isAg, D.sub, modeOf, noPtrs, go_sem, ↓reduceIte, Nat.reduceEqDiff, Nat.reduceAdd, Nat.reduceLeDiff, Nat.reduceBEq, Nat.reduceBneDiff, Nat.reduceLT, Nat.reduceSub]
  ·obtain ⟨a4, sd4, x4, s1, s2, s3, s4, s5, hP4⟩ := hc2 nn c a sd 2 hc (by omega) (by omega)
   have s5 := s5 (by omega)
   have w := wrap_i64 (x := 1 + x4) (by omega) (by omega)
   refine ⟨a4, sd4, leafX (1 + x4) 0, by omega, by omega, leaf_drn (by omega) (fun _ => rfl) (by omega) (by omega) hg, ?_⟩
   refine afw_of_res (wv := .no) hr hm rfl rfl rfl fun hb ha => ?_
   simp +contextual -implicitDefEqProofs only [k_genLeaf, uS, uR, srcD, eI, eB, eE_leafX, hT, D.size, D.sizeL, D.isAg, go_sem, ↓reduceIte, Nat.reduceEqDiff, Nat.reduceAdd, Nat.reduceLeDiff, Nat.reduceBneDiff, Nat.reduceLT]
   refine wcl_self [3000000001] [] (by rfl) (by rfl) (by rfl) hP4 rfl (by simp [wOut, outU, uS, srcD, noPtrs, D.noPtr, shWL, AV.shW, posW, shUs, U.shW, St.unit, lu]) ?_
   simp +contextual -implicitDefEqProofs only [uS, srcD, eI, w, D.put, D.cells, D.size, D.sizeL, D.isAg, D.sub, modeOf, noPtrs, go_sem, ↓reduceIte, Nat.reduceEqDiff, Nat.reduceAdd, Nat.reduceLeDiff, Nat.reduceBEq, Nat.reduceBneDiff, Nat.reduceLT, Nat.reduceSub]
theorem eE_flatX (e : Ex) : (eE e).flat = false := by cases e; rw [eE_mk]; rfl
theorem Drn.mono {g : Int × Int} {c : Bool} {s s' : Int} {d d' : Nat} {e : Ex} (h : Drn g c s d e) (hs : s ≤ s') (hd : d ≤ d') : Drn g c s' d' e :=
 ⟨h.1, h.2.1, h.2.2.1, h.2.2.2.1, by have := h.2.2.2.2.1; omega, by have := h.2.2.2.2.2; omega⟩
theorem size1 {k n : Int} {nn : Option Bool} {e : Ex} : sizeE (.mk k n nn [e]) = 1 + sizeE e := by rw [sizeE_mk]; simp [sizeEs]
theorem size2 {k n : Int} {nn : Option Bool} {e f : Ex} : sizeE (.mk k n nn [e, f]) = 1 + (sizeE e + sizeE f) := by rw [sizeE_mk]; simp [sizeEs]
theorem not_drn {g : Int × Int} {cond : Bool} {s : Int} {d : Nat} {e : Ex} (h : Drn g true s d e) : Drn g cond (s + 1) (d + 1) (.mk 5 0 (some false) [e]) := by
 obtain ⟨h1, h2, h3, h4, h5, h6⟩ := h
 have h3 := h3 rfl
 refine ⟨?_, by rw [fitE_mk]; simp [h2], fun _ => ?_, by rw [size1]; omega, by rw [size1]; omega, ?_⟩
 ·rw [treeE_mk]; simp [formOk, kidsN, headC, h3, h1]
 ·simp [condE, isCondK, condEs, h3]
 ·rw [depthE_mk]; simp [depthEs]; omega
theorem star_drn {g : Int × Int} {b : Bool} {s : Int} {d : Nat} {e : Ex} (h : Drn g b s d e) : Drn g false (s + 1) (d + 1) (.mk 8 0 (some false) [e]) := by
 obtain ⟨h1, h2, h3, h4, h5, h6⟩ := h
 refine ⟨?_, by rw [fitE_mk]; simp [h2], (fun h => by cases h), by rw [size1]; omega, by rw [size1]; omega, ?_⟩
 ·rw [treeE_mk]; simp [formOk, kidsN, h1]
 ·rw [depthE_mk]; simp [depthEs]; omega
theorem pair_drn {g : Int × Int} {cond b1 b2 : Bool} {s1 s2 k : Int} {d : Nat} {e f : Ex} (hk : k = 6 ∨ k = 7) (h : Drn g b1 s1 d e) (h' : Drn g b2 s2 d f) (q1 : cond = true → b1 = true) (q2 : cond = true → b2 = true) : Drn g cond (1 + sizeE e + sizeE f) (d + 1) (.mk k 0 (some false) [e, f]) := by
 obtain ⟨h1, h2, h3, h4, h5, h6⟩ := h
 obtain ⟨g1, g2, g3, g4, g5, g6⟩ := h'
 refine ⟨?_, by rw [fitE_mk]; simp [h2, g2], fun hc => ?_, by rw [size2]; omega, by rw [size2]; omega, ?_⟩
 ·rw [treeE_mk]; rcases hk with rfl | rfl <;> simp [formOk, kidsN, h1, g1]
 ·have e1 := h3 (q1 hc)
  have e2 := g3 (q2 hc)
  rcases hk with rfl | rfl <;> simp [condE, isCondK, condEs, e1, e2]
 ·rw [depthE_mk]; simp [depthEs]; omega

def k_genExpr (g f1 f2 f3 f4 : Nat) : RC := (.seq (.reg false [⟨none, .zer 6 3 (.ag [(.sc (.int .i64 0)), (.sc (.int .i64 0)), (.ls (some true) 3 [])])⟩]) ((.seq (.reg false [⟨none, .mv 11 (.t 0)⟩, ⟨none, .nck 12 (.t 11)⟩, ⟨none, .fa 13 3 (.t 12)⟩, ⟨none, .ld 14 false 1 (.t 13)⟩, ⟨none, .bin 15 .sub (.t 14) (.c (.sc (.int .i64 1)))⟩, ⟨none, .nck 16 (.t 11)⟩, ⟨none, .fa 17 3 (.t 16)⟩, ⟨none, .st 1 (.t 17) (.t 15)⟩]) ((.seq ((.seq (.reg false [⟨none, .mv 18 (.t 0)⟩, ⟨none, .nck 19 (.t 18)⟩, ⟨none, .fa 20 3 (.t 19)⟩, ⟨none, .ld 21 false 1 (.t 20)⟩, ⟨none, .bin 22 .lss (.t 21) (.c (.sc (.int .i64 1)))⟩, ⟨none, .mv 23 (.t 22)⟩, ⟨some (23, false), .mv 24 (.t 2)⟩, ⟨some (23, false), .bin 25 .lss (.t 24) (.c (.sc (.int .i64 1)))⟩, ⟨none, .pick 26 (.t 23) (.c (.sc (.bool true))) (.t 25)⟩, ⟨none, .mv 27 (.t 26)⟩, ⟨some (27, false), .mv 28 (.t 0)⟩, ⟨some (27, false), .nck 29 (.t 28)⟩, ⟨some (27, false), .fa 30 0 (.t 29)⟩, ⟨some (27, false), .ld 31 false 1 (.t 30)⟩, ⟨some (27, false), .wcl (some 32) f1 [(.t 31), (.c (.sc (.int .i64 6)))]⟩, ⟨none, .pick 33 (.t 27) (.c (.sc (.bool true))) (.t 32)⟩]) (.cond (.t 33) ((.seq (.reg false [⟨none, .mv 34 (.t 0)⟩, ⟨none, .mv 35 (.t 1)⟩, ⟨none, .wcl (some 36) f2 [(.t 34), (.t 35)]⟩, ⟨none, .st 3 (.t 6) (.t 36)⟩]) (.ret))) (.skip)))) ((.seq (.reg false [⟨none, .mv 37 (.t 0)⟩, ⟨none, .nck 38 (.t 37)⟩, ⟨none, .fa 39 0 (.t 38)⟩, ⟨none, .ld 40 false 1 (.t 39)⟩, ⟨none, .wcl (some 41) f3 [(.t 40), (.c (.sc (.int .i64 10)))]⟩, ⟨none, .mv 7 (.t 41)⟩]) ((.seq (.blk 0 ((.seq (.reg false [⟨none, .mv 43 (.t 7)⟩, ⟨none, .bin 44 .eql (.t 43) (.c (.sc (.int .i64 0)))⟩, ⟨none, .mv 45 (.t 44)⟩, ⟨some (45, false), .mv 46 (.t 1)⟩, ⟨some (45, false), .mv 47 (.t 46)⟩, ⟨some (47, true), .mv 48 (.t 7)⟩, ⟨some (47, true), .bin 49 .lss (.t 48) (.c (.sc (.int .i64 4)))⟩, ⟨some (45, false), .pick 50 (.t 47) (.t 49) (.c (.sc (.bool false)))⟩, ⟨none, .pick 51 (.t 45) (.c (.sc (.bool true))) (.t 50)⟩, ⟨none, .mv 42 (.t 51)⟩]) (.cond (.t 42) ((.seq (.reg false [⟨none, .mv 52 (.t 0)⟩, ⟨none, .mv 53 (.t 2)⟩, ⟨none, .bin 54 .sub (.t 53) (.c (.sc (.int .i64 1)))⟩, ⟨none, .wcl (some 55) g [(.t 52), (.c (.sc (.bool true))), (.t 54)]⟩, ⟨none, .bs 56 3 (.ag [(.sc (.int .i64 0)), (.sc (.int .i64 0)), (.ls (some true) 3 [])]) 1 [(0, (.t 55))]⟩, ⟨none, .bld 57 (.ag [(.sc (.int .i64 0)), (.sc (.int .i64 0)), (.ls (some true) 3 [])]) [(0, 1, (.c (.sc (.int .i64 5)))), (2, 1, (.t 56))]⟩, ⟨none, .st 3 (.t 6) (.t 57)⟩]) (.ret))) ((.seq (.reg false [⟨none, .mv 59 (.t 7)⟩, ⟨none, .bin 60 .lss (.t 59) (.c (.sc (.int .i64 4)))⟩, ⟨none, .mv 58 (.t 60)⟩]) (.cond (.t 58) ((.seq (.reg false [⟨none, .mv 61 (.t 0)⟩, ⟨none, .mv 62 (.t 2)⟩, ⟨none, .bin 63 .sub (.t 62) (.c (.sc (.int .i64 1)))⟩, ⟨none, .wcl (some 64) g [(.t 61), (.c (.sc (.bool false))), (.t 63)]⟩, ⟨none, .bs 65 3 (.ag [(.sc (.int .i64 0)), (.sc (.int .i64 0)), (.ls (some true) 3 [])]) 1 [(0, (.t 64))]⟩, ⟨none, .bld 66 (.ag [(.sc (.int .i64 0)), (.sc (.int .i64 0)), (.ls (some true) 3 [])]) [(0, 1, (.c (.sc (.int .i64 8)))), (2, 1, (.t 65))]⟩, ⟨none, .st 3 (.t 6) (.t 66)⟩]) (.ret))) (.skip)))))))) ((.seq (.reg false [⟨none, .mv 8 (.c (.sc (.int .i64 7)))⟩]) ((.seq ((.seq (.reg false [⟨none, .mv 67 (.t 7)⟩, ⟨none, .bin 68 .lss (.t 67) (.c (.sc (.int .i64 6)))⟩]) (.cond (.t 68) (.reg false [⟨none, .mv 8 (.c (.sc (.int .i64 6)))⟩]) (.skip)))) ((.seq (.reg false [⟨none, .mv 69 (.t 0)⟩, ⟨none, .mv 70 (.t 1)⟩, ⟨none, .mv 71 (.t 70)⟩, ⟨some (71, false), .mv 72 (.t 0)⟩, ⟨some (71, false), .nck 73 (.t 72)⟩, ⟨some (71, false), .fa 74 0 (.t 73)⟩, ⟨some (71, false), .ld 75 false 1 (.t 74)⟩, ⟨some (71, false), .wcl (some 76) f1 [(.t 75), (.c (.sc (.int .i64 5)))]⟩, ⟨none, .pick 77 (.t 71) (.c (.sc (.bool true))) (.t 76)⟩, ⟨none, .mv 78 (.t 2)⟩, ⟨none, .bin 79 .sub (.t 78) (.c (.sc (.int .i64 1)))⟩, ⟨none, .wcl (some 80) g [(.t 69), (.t 77), (.t 79)]⟩, ⟨none, .zer 9 3 (.ag [(.sc (.int .i64 0)), (.sc (.int .i64 0)), (.ls (some true) 3 [])])⟩, ⟨none, .st 3 (.t 9) (.t 80)⟩]) ((.seq (.reg false [⟨none, .mv 81 (.t 0)⟩, ⟨none, .mv 82 (.t 1)⟩, ⟨none, .mv 83 (.t 82)⟩, ⟨some (83, false), .mv 84 (.t 0)⟩, ⟨some (83, false), .nck 85 (.t 84)⟩, ⟨some (83, false), .fa 86 0 (.t 85)⟩, ⟨some (83, false), .ld 87 false 1 (.t 86)⟩, ⟨some (83, false), .wcl (some 88) f1 [(.t 87), (.c (.sc (.int .i64 6)))]⟩, ⟨none, .pick 89 (.t 83) (.c (.sc (.bool true))) (.t 88)⟩, ⟨none, .mv 90 (.t 2)⟩, ⟨none, .bin 91 .sub (.t 90) (.c (.sc (.int .i64 1)))⟩, ⟨none, .wcl (some 92) g [(.t 81), (.t 89), (.t 91)]⟩, ⟨none, .zer 10 3 (.ag [(.sc (.int .i64 0)), (.sc (.int .i64 0)), (.ls (some true) 3 [])])⟩, ⟨none, .st 3 (.t 10) (.t 92)⟩]) ((.seq (.reg false [⟨none, .mv 93 (.t 8)⟩, ⟨none, .ld 94 true 3 (.t 9)⟩, ⟨none, .ld 95 true 3 (.t 10)⟩, ⟨none, .call (some 96) f4 [(.t 93), (.t 94), (.t 95)]⟩, ⟨none, .st 3 (.t 6) (.t 96)⟩]) (.ret))))))))))))))))))))
def K_genExpr (P : Program) (fno : Nat) : Prop := ∀ (nn : Option Bool) (c : List Int) (g : Int × Int), srcOk c → okG g = true → ∀ (d : Nat), ∀ (dd a sd l : Int) (cond : Bool), dd = (d : Int) → 0 ≤ a → a ≤ 200000000 - 100000 * dd → -2000 ≤ l → l ≤ 1000 → ∃ a' sd' e, a ≤ a' ∧ a' ≤ a + 14 * sizeE e ∧ Drn g cond 2000 (d + 1) e ∧ (l ≤ 1 → sizeE e ≤ 1) ∧ (1 < l → (sizeE e : Int) ≤ 2 * l - 1) ∧ AFW P fno [uR g l, uS nn c a sd] [.pb 3000000000 0, .im none (eB cond), .im none (eI dd)] [uR g (l - sizeE e), uS nn c a' sd'] (.own (eE e))
theorem a_genExpr {P : Program} (hm : P.follows .mixedOrders = true) {g f1 f2 f3 f4 : Nat} (hr : resF P g = some (97, k_genExpr g f1 f2 f3 f4, [.c 6 3 true])) (hc1 : K_srcOne P f1) (hc2 : K_genLeaf P f2) (hc3 : K_srcPick P f3) (hc4 : K_l02PairX P f4) : K_genExpr P g := by
 intro nn c g hc hg d
 induction d with
 | zero =>
  intro dd a sd l cond hdd h0 hA hl0 hl1
  have w0 := wrap_i64 (x := l - 1) (by omega) (by omega)
  have hd : dd < 1 := by omega
  by_cases hl : l - 1 < 1
  ·obtain ⟨a9, sd9, e9, t1, t2, t3, hL⟩ := hc2 nn c a sd g (l - 1) cond hc hg (by omega) (by omega)
   have hs9 : (sizeE e9 : Int) = 1 := by have h1 := t3.2.2.2.1; have h2 := t3.2.2.2.2.1; omega
   refine ⟨a9, sd9, e9, by omega, by omega, t3.mono (by omega) (by omega), fun _ => by omega, fun _ => by omega, ?_⟩
   rw [hs9]
   refine afw_of_res (wv := .no) hr hm rfl rfl rfl fun hb ha => ?_
   simp +contextual -implicitDefEqProofs only [k_genExpr, uS, uR, srcD, eI, eB, w0, hl, D.size, D.sizeL, go_sem, ↓reduceIte, Nat.reduceEqDiff, Nat.reduceAdd, Nat.reduceLeDiff, Nat.reduceBEq, Nat.reduceBneDiff, Nat.reduceLT]
   refine wcl_self [3000000000, 3000000001] [] (by rfl) (by rfl) (by rfl) hL rfl (by simp [wOut, outU, uS, uR, srcD, okWL, AV.okW, noPtrs, D.noPtr, shWL, AV.shW, posW, shUs, U.shW, St.unit, lu, eI, D.flat]) ?_
   simp +contextual -implicitDefEqProofs only [uS, uR, srcD, eI, eE_size, eE_isAg, encE.sub, eE_flatX, D.put, modeOf, noPtrs, go_sem, ↓reduceIte, Nat.reduceEqDiff, Nat.reduceAdd, Nat.reduceLeDiff, Nat.reduceBEq, Nat.reduceBneDiff, Nat.reduceLT, Nat.reduceSub]
  ·obtain ⟨a9, sd9, e9, t1, t2, t3, hL⟩ := hc2 nn c a sd g (l - 1) cond hc hg (by omega) (by omega)
   have hs9 : (sizeE e9 : Int) = 1 := by have h1 := t3.2.2.2.1; have h2 := t3.2.2.2.2.1; omega
   refine ⟨a9, sd9, e9, by omega, by omega, t3.mono (by omega) (by omega), fun _ => by omega, fun _ => by omega, ?_⟩
   rw [hs9]
   refine afw_of_res (wv := .no) hr hm rfl rfl rfl fun hb ha => ?_
   simp +contextual -implicitDefEqProofs only [k_genExpr, uS, uR, srcD, eI, eB, w0, hl, hd, D.size, D.sizeL, go_sem, ↓reduceIte, Nat.reduceEqDiff, Nat.reduceAdd, Nat.reduceLeDiff, Nat.reduceBEq, Nat.reduceBneDiff, Nat.reduceLT]
   refine wcl_self [3000000000, 3000000001] [] (by rfl) (by rfl) (by rfl) hL rfl (by simp [wOut, outU, uS, uR, srcD, okWL, AV.okW, noPtrs, D.noPtr, shWL, AV.shW, posW, shUs, U.shW, St.unit, lu, eI, D.flat]) ?_
   simp +contextual -implicitDefEqProofs only [uS, uR, srcD, eI, eE_size, eE_isAg, encE.sub, eE_flatX, D.put, modeOf, noPtrs, go_sem, ↓reduceIte, Nat.reduceEqDiff, Nat.reduceAdd, Nat.reduceLeDiff, Nat.reduceBEq, Nat.reduceBneDiff, Nat.reduceLT, Nat.reduceSub]
 | succ n ih =>
  intro dd a sd l cond hdd h0 hA hl0 hl1
  have w0 := wrap_i64 (x := l - 1) (by omega) (by omega)
  have wn := wrap_i64 (x := dd - 1) (by omega) (by omega)
  have hd : ¬ dd < 1 := by omega
  by_cases hl : l - 1 < 1
  ·obtain ⟨a9, sd9, e9, t1, t2, t3, hL⟩ := hc2 nn c a sd g (l - 1) cond hc hg (by omega) (by omega)
   have hs9 : (sizeE e9 : Int) = 1 := by have h1 := t3.2.2.2.1; have h2 := t3.2.2.2.2.1; omega
   refine ⟨a9, sd9, e9, by omega, by omega, t3.mono (by omega) (by omega), fun _ => by omega, fun _ => by omega, ?_⟩
   rw [hs9]
   refine afw_of_res (wv := .no) hr hm rfl rfl rfl fun hb ha => ?_
   simp +contextual -implicitDefEqProofs only [k_genExpr, uS, uR, srcD, eI, eB, w0, hl, D.size, D.sizeL, go_sem, ↓reduceIte, Nat.reduceEqDiff, Nat.reduceAdd, Nat.reduceLeDiff, Nat.reduceBEq, Nat.reduceBneDiff, Nat.reduceLT]
   refine wcl_self [3000000000, 3000000001] [] (by rfl) (by rfl) (by rfl) hL rfl (by simp [wOut, outU, uS, uR, srcD, okWL, AV.okW, noPtrs, D.noPtr, shWL, AV.shW, posW, shUs, U.shW, St.unit, lu, eI, D.flat]) ?_
   simp +contextual -implicitDefEqProofs only [uS, uR, srcD, eI, eE_size, eE_isAg, encE.sub, eE_flatX, D.put, modeOf, noPtrs, go_sem, ↓reduceIte, Nat.reduceEqDiff, Nat.reduceAdd, Nat.reduceLeDiff, Nat.reduceBEq, Nat.reduceBneDiff, Nat.reduceLT, Nat.reduceSub]
  obtain ⟨a1, sd1, b1, p1, p2, hP1⟩ := hc1 nn c a sd 6 hc (by omega) (by omega)
  cases b1
  ·obtain ⟨a2, sd2, x2, q1, q2, q3, q4, q5, hP2⟩ := hc3 nn c a1 sd1 10 hc (by omega) (by omega)
   by_cases hk0 : x2 = 0
   ·have hk0b : (x2 == 0) = true := by simp [hk0]
    obtain ⟨a3, sd3, e3, s1, s2, s3, s4, s5, hE⟩ := ih (dd - 1) a2 sd2 (l - 1) true (by omega) (by omega) (by omega) (by omega) (by omega)
    have hz := @size1 5 0 (some false) e3
    have hs : l - (sizeE (.mk 5 0 (some false) [e3]) : Int) = l - 1 - (sizeE e3 : Int) := by omega
    have hs1 := s3.2.2.2.1
    have s5 : (sizeE e3 : Int) ≤ 2 * l - 3 ∨ sizeE e3 ≤ 1 := by omega
    have s3' : Drn g true (sizeE e3) (n + 1) e3 := ⟨s3.1, s3.2.1, s3.2.2.1, s3.2.2.2.1, Int.le_refl _, s3.2.2.2.2.2⟩
    refine ⟨a3, sd3, .mk 5 0 (some false) [e3], by omega, by omega, (not_drn s3').mono (by omega) (Nat.le_refl _), fun _ => by omega, fun _ => by omega, ?_⟩
    rw [hs, eE_mk]
    refine afw_of_res (wv := .no) hr hm rfl rfl rfl fun hb ha => ?_
    simp +contextual -implicitDefEqProofs only [k_genExpr, uS, uR, srcD, eI, eB, w0, hl, hd, D.size, D.sizeL, go_sem, ↓reduceIte, Nat.reduceEqDiff, Nat.reduceAdd, Nat.reduceLeDiff, Nat.reduceBEq, Nat.reduceBneDiff, Nat.reduceLT]
    refine wcl_self [3000000001] [] (by rfl) (by rfl) (by rfl) hP1 rfl (by simp [wOut, outU, uS, srcD, noPtrs, D.noPtr, shWL, AV.shW, posW, shUs, U.shW, St.unit, lu]) ?_
    simp +contextual -implicitDefEqProofs only [uS, srcD, eB, D.size, go_sem, ↓reduceIte, Nat.reduceEqDiff, Nat.reduceAdd, Nat.reduceLeDiff, Nat.reduceLT]
    refine wcl_self [3000000001] [] (by rfl) (by rfl) (by rfl) hP2 rfl (by simp [wOut, outU, uS, srcD, noPtrs, D.noPtr, shWL, AV.shW, posW, shUs, U.shW, St.unit, lu]) ?_
    simp +contextual -implicitDefEqProofs only [uS, srcD, eI, wn, hk0b, go_sem, ↓reduceIte, Nat.reduceEqDiff]
    refine wcl_self [3000000000, 3000000001] [] (by rfl) (by rfl) (by rfl) hE rfl (by simp [wOut, outU, uS, uR, srcD, okWL, AV.okW, noPtrs, D.noPtr, shWL, AV.shW, posW, shUs, U.shW, St.unit, lu, eI, D.flat]) ?_
    simp +contextual -implicitDefEqProofs only [uS, uR, srcD, eI, eE_size, eE_flatX, lC, lN, D.put, D.cells, D.size, D.sizeL, modeOf, noPtrs, go_sem, ↓reduceIte, Nat.reduceEqDiff, Nat.reduceAdd, Nat.reduceLeDiff, Nat.reduceMul, Nat.reduceBEq, Nat.reduceBneDiff, Nat.reduceLT, Nat.reduceSub]
    exact ⟨by decide, by simp [eE_size]⟩
   have hk0b : (x2 == 0) = false := by simp [hk0]
   cases cond
   ·by_cases hk4 : x2 < 4
    ·obtain ⟨a3, sd3, e3, s1, s2, s3, s4, s5, hE⟩ := ih (dd - 1) a2 sd2 (l - 1) false (by omega) (by omega) (by omega) (by omega) (by omega)
     have hz := @size1 8 0 (some false) e3
     have hs : l - (sizeE (.mk 8 0 (some false) [e3]) : Int) = l - 1 - (sizeE e3 : Int) := by omega
     have hs1 := s3.2.2.2.1
     have s5 : (sizeE e3 : Int) ≤ 2 * l - 3 ∨ sizeE e3 ≤ 1 := by omega
     have s3' : Drn g false (sizeE e3) (n + 1) e3 := ⟨s3.1, s3.2.1, s3.2.2.1, s3.2.2.2.1, Int.le_refl _, s3.2.2.2.2.2⟩
     refine ⟨a3, sd3, .mk 8 0 (some false) [e3], by omega, by omega, (star_drn s3').mono (by omega) (Nat.le_refl _), fun _ => by omega, fun _ => by omega, ?_⟩
     rw [hs, eE_mk]
     refine afw_of_res (wv := .no) hr hm rfl rfl rfl fun hb ha => ?_
     simp +contextual -implicitDefEqProofs only [k_genExpr, uS, uR, srcD, eI, eB, w0, hl, hd, D.size, D.sizeL, go_sem, ↓reduceIte, Nat.reduceEqDiff, Nat.reduceAdd, Nat.reduceLeDiff, Nat.reduceBEq, Nat.reduceBneDiff, Nat.reduceLT]
     refine wcl_self [3000000001] [] (by rfl) (by rfl) (by rfl) hP1 rfl (by simp [wOut, outU, uS, srcD, noPtrs, D.noPtr, shWL, AV.shW, posW, shUs, U.shW, St.unit, lu]) ?_
     simp +contextual -implicitDefEqProofs only [uS, srcD, eB, D.size, go_sem, ↓reduceIte, Nat.reduceEqDiff, Nat.reduceAdd, Nat.reduceLeDiff, Nat.reduceLT]
     refine wcl_self [3000000001] [] (by rfl) (by rfl) (by rfl) hP2 rfl (by simp [wOut, outU, uS, srcD, noPtrs, D.noPtr, shWL, AV.shW, posW, shUs, U.shW, St.unit, lu]) ?_
     simp +contextual -implicitDefEqProofs only [uS, srcD, eI, wn, hk0b, hk4, go_sem, ↓reduceIte, Nat.reduceEqDiff]
     refine wcl_self [3000000000, 3000000001] [] (by rfl) (by rfl) (by rfl) hE rfl (by simp [wOut, outU, uS, uR, srcD, okWL, AV.okW, noPtrs, D.noPtr, shWL, AV.shW, posW, shUs, U.shW, St.unit, lu, eI, D.flat]) ?_
     simp +contextual -implicitDefEqProofs only [uS, uR, srcD, eI, eE_size, eE_flatX, lC, lN, D.put, D.cells, D.size, D.sizeL, modeOf, noPtrs, go_sem, ↓reduceIte, Nat.reduceEqDiff, Nat.reduceAdd, Nat.reduceLeDiff, Nat.reduceMul, Nat.reduceBEq, Nat.reduceBneDiff, Nat.reduceLT, Nat.reduceSub]
     exact ⟨by decide, by simp [eE_size]⟩
    ·obtain ⟨a3, sd3, b3, r1, r2, hP3⟩ := hc1 nn c a2 sd2 5 hc (by omega) (by omega)
     obtain ⟨a4, sd4, e4, s1, s2, s3, s4, s5, hE1⟩ := ih (dd - 1) a3 sd3 (l - 1) b3 (by omega) (by omega) (by omega) (by omega) (by omega)
     have hs4 := s3.2.2.2.1
     have s5 : (sizeE e4 : Int) ≤ 2 * l - 3 ∨ sizeE e4 ≤ 1 := by omega
     obtain ⟨a5, sd5, b5, r3, r4, hP5⟩ := hc1 nn c a4 sd4 6 hc (by omega) (by omega)
     obtain ⟨a6, sd6, e6, u1, u2, u3, u4, u5, hE2⟩ := ih (dd - 1) a5 sd5 (l - 1 - sizeE e4) b5 (by omega) (by omega) (by omega) (by omega) (by omega)
     have hs6 := u3.2.2.2.1
     have u5 : (sizeE e6 : Int) ≤ 2 * (l - 1 - sizeE e4) - 1 ∨ sizeE e6 ≤ 1 := by omega
     by_cases hk6 : x2 < 6
     ·have hz := @size2 6 0 (some false) e4 e6
      have hs : l - (sizeE (.mk 6 0 (some false) [e4, e6]) : Int) = l - 1 - (sizeE e4 : Int) - (sizeE e6 : Int) := by omega
      refine ⟨a6, sd6, .mk 6 0 (some false) [e4, e6], by omega, by omega, (pair_drn (by omega) s3 u3 (fun h => by cases h) (fun h => by cases h)).mono (by omega) (Nat.le_refl _), fun _ => by omega, fun _ => by omega, ?_⟩
      rw [hs, eE_mk]
      refine afw_of_res (wv := .no) hr hm rfl rfl rfl fun hb ha => ?_
      simp +contextual -implicitDefEqProofs only [k_genExpr, uS, uR, srcD, eI, eB, w0, hl, hd, D.size, D.sizeL, go_sem, ↓reduceIte, Nat.reduceEqDiff, Nat.reduceAdd, Nat.reduceLeDiff, Nat.reduceBEq, Nat.reduceBneDiff, Nat.reduceLT]
      refine wcl_self [3000000001] [] (by rfl) (by rfl) (by rfl) hP1 rfl (by simp [wOut, outU, uS, srcD, noPtrs, D.noPtr, shWL, AV.shW, posW, shUs, U.shW, St.unit, lu]) ?_
      simp +contextual -implicitDefEqProofs only [uS, srcD, eB, D.size, go_sem, ↓reduceIte, Nat.reduceEqDiff, Nat.reduceAdd, Nat.reduceLeDiff, Nat.reduceLT]
      refine wcl_self [3000000001] [] (by rfl) (by rfl) (by rfl) hP2 rfl (by simp [wOut, outU, uS, srcD, noPtrs, D.noPtr, shWL, AV.shW, posW, shUs, U.shW, St.unit, lu]) ?_
      simp +contextual -implicitDefEqProofs only [uS, srcD, eI, hk0b, hk4, hk6, D.size, go_sem, ↓reduceIte, Nat.reduceEqDiff, Nat.reduceAdd, Nat.reduceLeDiff, Nat.reduceLT]
      refine wcl_self [3000000001] [] (by rfl) (by rfl) (by rfl) hP3 rfl (by simp [wOut, outU, uS, srcD, noPtrs, D.noPtr, shWL, AV.shW, posW, shUs, U.shW, St.unit, lu]) ?_
      simp +contextual -implicitDefEqProofs only [uS, srcD, eB, wn, go_sem, ↓reduceIte, Nat.reduceEqDiff]
      refine wcl_self [3000000000, 3000000001] [] (by rfl) (by rfl) (by rfl) hE1 rfl (by simp [wOut, outU, uS, uR, srcD, okWL, AV.okW, noPtrs, D.noPtr, shWL, AV.shW, posW, shUs, U.shW, St.unit, lu, eI, D.flat]) ?_
      simp +contextual -implicitDefEqProofs only [uS, uR, srcD, eI, eE_size, eE_flatX, D.put, D.size, D.sizeL, modeOf, noPtrs, go_sem, ↓reduceIte, Nat.reduceEqDiff, Nat.reduceAdd, Nat.reduceLeDiff, Nat.reduceBEq, Nat.reduceBneDiff, Nat.reduceLT, Nat.reduceSub]
      refine wcl_self [3000000001] [] (by rfl) (by rfl) (by rfl) hP5 rfl (by simp [wOut, outU, uS, srcD, noPtrs, D.noPtr, shWL, AV.shW, posW, shUs, U.shW, St.unit, lu]) ?_
      simp +contextual -implicitDefEqProofs only [uS, srcD, eB, wn, go_sem, ↓reduceIte, Nat.reduceEqDiff]
      refine wcl_self [3000000000, 3000000001] [] (by rfl) (by rfl) (by rfl) hE2 rfl (by simp [wOut, outU, uS, uR, srcD, okWL, AV.okW, noPtrs, D.noPtr, shWL, AV.shW, posW, shUs, U.shW, St.unit, lu, eI, D.flat]) ?_
      simp +contextual -implicitDefEqProofs only [uS, uR, srcD, eI, eE_size, eE_isAg, encE.sub, eE_flatX, D.put, D.size, D.sizeL, modeOf, noPtrs, go_sem, ↓reduceIte, Nat.reduceEqDiff, Nat.reduceAdd, Nat.reduceLeDiff, Nat.reduceBEq, Nat.reduceBneDiff, Nat.reduceLT, Nat.reduceSub]
      refine callP_self rfl hc4 (by simp only [AV.aggV, itemOk, go_sem, bE, Bool.and_self] <;> rfl) (by simp only [AV.aggV, itemOk, go_sem, bE, Bool.and_self] <;> rfl) ?_
      simp +contextual -implicitDefEqProofs only [eE_isAg, encE.sub, lC, lN, D.put, D.cells, D.size, D.sizeL, modeOf, noPtrs, go_sem, ↓reduceIte, Nat.reduceEqDiff, Nat.reduceAdd, Nat.reduceLeDiff, Nat.reduceBEq, Nat.reduceBneDiff, Nat.reduceLT]
      simp [eE_size]
     ·have hz := @size2 7 0 (some false) e4 e6
      have hs : l - (sizeE (.mk 7 0 (some false) [e4, e6]) : Int) = l - 1 - (sizeE e4 : Int) - (sizeE e6 : Int) := by omega
      refine ⟨a6, sd6, .mk 7 0 (some false) [e4, e6], by omega, by omega, (pair_drn (by omega) s3 u3 (fun h => by cases h) (fun h => by cases h)).mono (by omega) (Nat.le_refl _), fun _ => by omega, fun _ => by omega, ?_⟩
      rw [hs, eE_mk]
      refine afw_of_res (wv := .no) hr hm rfl rfl rfl fun hb ha => ?_
      simp +contextual -implicitDefEqProofs only [k_genExpr, uS, uR, srcD, eI, eB, w0, hl, hd, D.size, D.sizeL, go_sem, ↓reduceIte, Nat.reduceEqDiff, Nat.reduceAdd, Nat.reduceLeDiff, Nat.reduceBEq, Nat.reduceBneDiff, Nat.reduceLT]
      refine wcl_self [3000000001] [] (by rfl) (by rfl) (by rfl) hP1 rfl (by simp [wOut, outU, uS, srcD, noPtrs, D.noPtr, shWL, AV.shW, posW, shUs, U.shW, St.unit, lu]) ?_
      simp +contextual -implicitDefEqProofs only [uS, srcD, eB, D.size, go_sem, ↓reduceIte, Nat.reduceEqDiff, Nat.reduceAdd, Nat.reduceLeDiff, Nat.reduceLT]
      refine wcl_self [3000000001] [] (by rfl) (by rfl) (by rfl) hP2 rfl (by simp [wOut, outU, uS, srcD, noPtrs, D.noPtr, shWL, AV.shW, posW, shUs, U.shW, St.unit, lu]) ?_
      simp +contextual -implicitDefEqProofs only [uS, srcD, eI, hk0b, hk4, hk6, D.size, go_sem, ↓reduceIte, Nat.reduceEqDiff, Nat.reduceAdd, Nat.reduceLeDiff, Nat.reduceLT]
      refine wcl_self [3000000001] [] (by rfl) (by rfl) (by rfl) hP3 rfl (by simp [wOut, outU, uS, srcD, noPtrs, D.noPtr, shWL, AV.shW, posW, shUs, U.shW, St.unit, lu]) ?_
      simp +contextual -implicitDefEqProofs only [uS, srcD, eB, wn, go_sem, ↓reduceIte, Nat.reduceEqDiff]
      refine wcl_self [3000000000, 3000000001] [] (by rfl) (by rfl) (by rfl) hE1 rfl (by simp [wOut, outU, uS, uR, srcD, okWL, AV.okW, noPtrs, D.noPtr, shWL, AV.shW, posW, shUs, U.shW, St.unit, lu, eI, D.flat]) ?_
      simp +contextual -implicitDefEqProofs only [uS, uR, srcD, eI, eE_size, eE_flatX, D.put, D.size, D.sizeL, modeOf, noPtrs, go_sem, ↓reduceIte, Nat.reduceEqDiff, Nat.reduceAdd, Nat.reduceLeDiff, Nat.reduceBEq, Nat.reduceBneDiff, Nat.reduceLT, Nat.reduceSub]
      refine wcl_self [3000000001] [] (by rfl) (by rfl) (by rfl) hP5 rfl (by simp [wOut, outU, uS, srcD, noPtrs, D.noPtr, shWL, AV.shW, posW, shUs, U.shW, St.unit, lu]) ?_
      simp +contextual -implicitDefEqProofs only [uS, srcD, eB, wn, go_sem, ↓reduceIte, Nat.reduceEqDiff]
      refine wcl_self [3000000000, 3000000001] [] (by rfl) (by rfl) (by rfl) hE2 rfl (by simp [wOut, outU, uS, uR, srcD, okWL, AV.okW, noPtrs, D.noPtr, shWL, AV.shW, posW, shUs, U.shW, St.unit, lu, eI, D.flat]) ?_
      simp +contextual -implicitDefEqProofs only [uS, uR, srcD, eI, eE_size, eE_isAg, encE.sub, eE_flatX, D.put, D.size, D.sizeL, modeOf, noPtrs, go_sem, ↓reduceIte, Nat.reduceEqDiff, Nat.reduceAdd, Nat.reduceLeDiff, Nat.reduceBEq, Nat.reduceBneDiff, Nat.reduceLT, Nat.reduceSub]
      refine callP_self rfl hc4 (by simp only [AV.aggV, itemOk, go_sem, bE, Bool.and_self] <;> rfl) (by simp only [AV.aggV, itemOk, go_sem, bE, Bool.and_self] <;> rfl) ?_
      simp +contextual -implicitDefEqProofs only [eE_isAg, encE.sub, lC, lN, D.put, D.cells, D.size, D.sizeL, modeOf, noPtrs, go_sem, ↓reduceIte, Nat.reduceEqDiff, Nat.reduceAdd, Nat.reduceLeDiff, Nat.reduceBEq, Nat.reduceBneDiff, Nat.reduceLT]
      simp [eE_size]
   ·by_cases hk4 : x2 < 4
    ·obtain ⟨a3, sd3, e3, s1, s2, s3, s4, s5, hE⟩ := ih (dd - 1) a2 sd2 (l - 1) true (by omega) (by omega) (by omega) (by omega) (by omega)
     have hz := @size1 5 0 (some false) e3
     have hs : l - (sizeE (.mk 5 0 (some false) [e3]) : Int) = l - 1 - (sizeE e3 : Int) := by omega
     have hs1 := s3.2.2.2.1
     have s5 : (sizeE e3 : Int) ≤ 2 * l - 3 ∨ sizeE e3 ≤ 1 := by omega
     have s3' : Drn g true (sizeE e3) (n + 1) e3 := ⟨s3.1, s3.2.1, s3.2.2.1, s3.2.2.2.1, Int.le_refl _, s3.2.2.2.2.2⟩
     refine ⟨a3, sd3, .mk 5 0 (some false) [e3], by omega, by omega, (not_drn s3').mono (by omega) (Nat.le_refl _), fun _ => by omega, fun _ => by omega, ?_⟩
     rw [hs, eE_mk]
     refine afw_of_res (wv := .no) hr hm rfl rfl rfl fun hb ha => ?_
     simp +contextual -implicitDefEqProofs only [k_genExpr, uS, uR, srcD, eI, eB, w0, hl, hd, D.size, D.sizeL, go_sem, ↓reduceIte, Nat.reduceEqDiff, Nat.reduceAdd, Nat.reduceLeDiff, Nat.reduceBEq, Nat.reduceBneDiff, Nat.reduceLT]
     refine wcl_self [3000000001] [] (by rfl) (by rfl) (by rfl) hP1 rfl (by simp [wOut, outU, uS, srcD, noPtrs, D.noPtr, shWL, AV.shW, posW, shUs, U.shW, St.unit, lu]) ?_
     simp +contextual -implicitDefEqProofs only [uS, srcD, eB, D.size, go_sem, ↓reduceIte, Nat.reduceEqDiff, Nat.reduceAdd, Nat.reduceLeDiff, Nat.reduceLT]
     refine wcl_self [3000000001] [] (by rfl) (by rfl) (by rfl) hP2 rfl (by simp [wOut, outU, uS, srcD, noPtrs, D.noPtr, shWL, AV.shW, posW, shUs, U.shW, St.unit, lu]) ?_
     simp +contextual -implicitDefEqProofs only [uS, srcD, eI, wn, hk0b, hk4, go_sem, ↓reduceIte, Nat.reduceEqDiff]
     refine wcl_self [3000000000, 3000000001] [] (by rfl) (by rfl) (by rfl) hE rfl (by simp [wOut, outU, uS, uR, srcD, okWL, AV.okW, noPtrs, D.noPtr, shWL, AV.shW, posW, shUs, U.shW, St.unit, lu, eI, D.flat]) ?_
     simp +contextual -implicitDefEqProofs only [uS, uR, srcD, eI, eE_size, eE_flatX, lC, lN, D.put, D.cells, D.size, D.sizeL, modeOf, noPtrs, go_sem, ↓reduceIte, Nat.reduceEqDiff, Nat.reduceAdd, Nat.reduceLeDiff, Nat.reduceMul, Nat.reduceBEq, Nat.reduceBneDiff, Nat.reduceLT, Nat.reduceSub]
     exact ⟨by decide, by simp [eE_size]⟩
    ·obtain ⟨a4, sd4, e4, s1, s2, s3, s4, s5, hE1⟩ := ih (dd - 1) a2 sd2 (l - 1) true (by omega) (by omega) (by omega) (by omega) (by omega)
     have hs4 := s3.2.2.2.1
     have s5 : (sizeE e4 : Int) ≤ 2 * l - 3 ∨ sizeE e4 ≤ 1 := by omega
     obtain ⟨a6, sd6, e6, u1, u2, u3, u4, u5, hE2⟩ := ih (dd - 1) a4 sd4 (l - 1 - sizeE e4) true (by omega) (by omega) (by omega) (by omega) (by omega)
     have hs6 := u3.2.2.2.1
     have u5 : (sizeE e6 : Int) ≤ 2 * (l - 1 - sizeE e4) - 1 ∨ sizeE e6 ≤ 1 := by omega
     by_cases hk6 : x2 < 6
     ·have hz := @size2 6 0 (some false) e4 e6
      have hs : l - (sizeE (.mk 6 0 (some false) [e4, e6]) : Int) = l - 1 - (sizeE e4 : Int) - (sizeE e6 : Int) := by omega
      refine ⟨a6, sd6, .mk 6 0 (some false) [e4, e6], by omega, by omega, (pair_drn (by omega) s3 u3 (fun _ => rfl) (fun _ => rfl)).mono (by omega) (Nat.le_refl _), fun _ => by omega, fun _ => by omega, ?_⟩
      rw [hs, eE_mk]
      refine afw_of_res (wv := .no) hr hm rfl rfl rfl fun hb ha => ?_
      simp +contextual -implicitDefEqProofs only [k_genExpr, uS, uR, srcD, eI, eB, w0, hl, hd, D.size, D.sizeL, go_sem, ↓reduceIte, Nat.reduceEqDiff, Nat.reduceAdd, Nat.reduceLeDiff, Nat.reduceBEq, Nat.reduceBneDiff, Nat.reduceLT]
      refine wcl_self [3000000001] [] (by rfl) (by rfl) (by rfl) hP1 rfl (by simp [wOut, outU, uS, srcD, noPtrs, D.noPtr, shWL, AV.shW, posW, shUs, U.shW, St.unit, lu]) ?_
      simp +contextual -implicitDefEqProofs only [uS, srcD, eB, D.size, go_sem, ↓reduceIte, Nat.reduceEqDiff, Nat.reduceAdd, Nat.reduceLeDiff, Nat.reduceLT]
      refine wcl_self [3000000001] [] (by rfl) (by rfl) (by rfl) hP2 rfl (by simp [wOut, outU, uS, srcD, noPtrs, D.noPtr, shWL, AV.shW, posW, shUs, U.shW, St.unit, lu]) ?_
      simp +contextual -implicitDefEqProofs only [uS, srcD, eI, wn, hk0b, hk4, hk6, go_sem, ↓reduceIte, Nat.reduceEqDiff]
      refine wcl_self [3000000000, 3000000001] [] (by rfl) (by rfl) (by rfl) hE1 rfl (by simp [wOut, outU, uS, uR, srcD, okWL, AV.okW, noPtrs, D.noPtr, shWL, AV.shW, posW, shUs, U.shW, St.unit, lu, eI, D.flat]) ?_
      simp +contextual -implicitDefEqProofs only [uS, uR, srcD, eI, eE_size, eE_flatX, wn, D.put, D.size, D.sizeL, modeOf, noPtrs, go_sem, ↓reduceIte, Nat.reduceEqDiff, Nat.reduceAdd, Nat.reduceLeDiff, Nat.reduceBEq, Nat.reduceBneDiff, Nat.reduceLT, Nat.reduceSub]
      refine wcl_self [3000000000, 3000000001] [] (by rfl) (by rfl) (by rfl) hE2 rfl (by simp [wOut, outU, uS, uR, srcD, okWL, AV.okW, noPtrs, D.noPtr, shWL, AV.shW, posW, shUs, U.shW, St.unit, lu, eI, D.flat]) ?_
      simp +contextual -implicitDefEqProofs only [uS, uR, srcD, eI, eE_size, eE_isAg, encE.sub, eE_flatX, D.put, D.size, D.sizeL, modeOf, noPtrs, go_sem, ↓reduceIte, Nat.reduceEqDiff, Nat.reduceAdd, Nat.reduceLeDiff, Nat.reduceBEq, Nat.reduceBneDiff, Nat.reduceLT, Nat.reduceSub]
      refine callP_self rfl hc4 (by simp only [AV.aggV, itemOk, go_sem, bE, Bool.and_self] <;> rfl) (by simp only [AV.aggV, itemOk, go_sem, bE, Bool.and_self] <;> rfl) ?_
      simp +contextual -implicitDefEqProofs only [eE_isAg, encE.sub, lC, lN, D.put, D.cells, D.size, D.sizeL, modeOf, noPtrs, go_sem, ↓reduceIte, Nat.reduceEqDiff, Nat.reduceAdd, Nat.reduceLeDiff, Nat.reduceBEq, Nat.reduceBneDiff, Nat.reduceLT]
      simp [eE_size]
     ·have hz := @size2 7 0 (some false) e4 e6
      have hs : l - (sizeE (.mk 7 0 (some false) [e4, e6]) : Int) = l - 1 - (sizeE e4 : Int) - (sizeE e6 : Int) := by omega
      refine ⟨a6, sd6, .mk 7 0 (some false) [e4, e6], by omega, by omega, (pair_drn (by omega) s3 u3 (fun _ => rfl) (fun _ => rfl)).mono (by omega) (Nat.le_refl _), fun _ => by omega, fun _ => by omega, ?_⟩
      rw [hs, eE_mk]
      refine afw_of_res (wv := .no) hr hm rfl rfl rfl fun hb ha => ?_
      simp +contextual -implicitDefEqProofs only [k_genExpr, uS, uR, srcD, eI, eB, w0, hl, hd, D.size, D.sizeL, go_sem, ↓reduceIte, Nat.reduceEqDiff, Nat.reduceAdd, Nat.reduceLeDiff, Nat.reduceBEq, Nat.reduceBneDiff, Nat.reduceLT]
      refine wcl_self [3000000001] [] (by rfl) (by rfl) (by rfl) hP1 rfl (by simp [wOut, outU, uS, srcD, noPtrs, D.noPtr, shWL, AV.shW, posW, shUs, U.shW, St.unit, lu]) ?_
      simp +contextual -implicitDefEqProofs only [uS, srcD, eB, D.size, go_sem, ↓reduceIte, Nat.reduceEqDiff, Nat.reduceAdd, Nat.reduceLeDiff, Nat.reduceLT]
      refine wcl_self [3000000001] [] (by rfl) (by rfl) (by rfl) hP2 rfl (by simp [wOut, outU, uS, srcD, noPtrs, D.noPtr, shWL, AV.shW, posW, shUs, U.shW, St.unit, lu]) ?_
      simp +contextual -implicitDefEqProofs only [uS, srcD, eI, wn, hk0b, hk4, hk6, go_sem, ↓reduceIte, Nat.reduceEqDiff]
      refine wcl_self [3000000000, 3000000001] [] (by rfl) (by rfl) (by rfl) hE1 rfl (by simp [wOut, outU, uS, uR, srcD, okWL, AV.okW, noPtrs, D.noPtr, shWL, AV.shW, posW, shUs, U.shW, St.unit, lu, eI, D.flat]) ?_
      simp +contextual -implicitDefEqProofs only [uS, uR, srcD, eI, eE_size, eE_flatX, wn, D.put, D.size, D.sizeL, modeOf, noPtrs, go_sem, ↓reduceIte, Nat.reduceEqDiff, Nat.reduceAdd, Nat.reduceLeDiff, Nat.reduceBEq, Nat.reduceBneDiff, Nat.reduceLT, Nat.reduceSub]
      refine wcl_self [3000000000, 3000000001] [] (by rfl) (by rfl) (by rfl) hE2 rfl (by simp [wOut, outU, uS, uR, srcD, okWL, AV.okW, noPtrs, D.noPtr, shWL, AV.shW, posW, shUs, U.shW, St.unit, lu, eI, D.flat]) ?_
      simp +contextual -implicitDefEqProofs only [uS, uR, srcD, eI, eE_size, eE_isAg, encE.sub, eE_flatX, D.put, D.size, D.sizeL, modeOf, noPtrs, go_sem, ↓reduceIte, Nat.reduceEqDiff, Nat.reduceAdd, Nat.reduceLeDiff, Nat.reduceBEq, Nat.reduceBneDiff, Nat.reduceLT, Nat.reduceSub]
      refine callP_self rfl hc4 (by simp only [AV.aggV, itemOk, go_sem, bE, Bool.and_self] <;> rfl) (by simp only [AV.aggV, itemOk, go_sem, bE, Bool.and_self] <;> rfl) ?_
      simp +contextual -implicitDefEqProofs only [eE_isAg, encE.sub, lC, lN, D.put, D.cells, D.size, D.sizeL, modeOf, noPtrs, go_sem, ↓reduceIte, Nat.reduceEqDiff, Nat.reduceAdd, Nat.reduceLeDiff, Nat.reduceBEq, Nat.reduceBneDiff, Nat.reduceLT]
      simp [eE_size]
  ·obtain ⟨a9, sd9, e9, t1, t2, t3, hL⟩ := hc2 nn c a1 sd1 g (l - 1) cond hc hg (by omega) (by omega)
   have hs9 : (sizeE e9 : Int) = 1 := by have h1 := t3.2.2.2.1; have h2 := t3.2.2.2.2.1; omega
   refine ⟨a9, sd9, e9, by omega, by omega, t3.mono (by omega) (by omega), fun _ => by omega, fun _ => by omega, ?_⟩
   rw [hs9]
   refine afw_of_res (wv := .no) hr hm rfl rfl rfl fun hb ha => ?_
   simp +contextual -implicitDefEqProofs only [k_genExpr, uS, uR, srcD, eI, eB, w0, hl, hd, D.size, D.sizeL, go_sem, ↓reduceIte, Nat.reduceEqDiff, Nat.reduceAdd, Nat.reduceLeDiff, Nat.reduceBEq, Nat.reduceBneDiff, Nat.reduceLT]
   refine wcl_self [3000000001] [] (by rfl) (by rfl) (by rfl) hP1 rfl (by simp [wOut, outU, uS, srcD, noPtrs, D.noPtr, shWL, AV.shW, posW, shUs, U.shW, St.unit, lu]) ?_
   simp +contextual -implicitDefEqProofs only [uS, srcD, eB, go_sem, ↓reduceIte, Nat.reduceEqDiff]
   refine wcl_self [3000000000, 3000000001] [] (by rfl) (by rfl) (by rfl) hL rfl (by simp [wOut, outU, uS, uR, srcD, okWL, AV.okW, noPtrs, D.noPtr, shWL, AV.shW, posW, shUs, U.shW, St.unit, lu, eI, D.flat]) ?_
   simp +contextual -implicitDefEqProofs only [uS, uR, srcD, eI, eE_size, eE_isAg, encE.sub, eE_flatX, D.put, modeOf, noPtrs, go_sem, ↓reduceIte, Nat.reduceEqDiff, Nat.reduceAdd, Nat.reduceLeDiff, Nat.reduceBEq, Nat.reduceBneDiff, Nat.reduceLT, Nat.reduceSub]
end Go.Ax
namespace Go.Ax
set_option maxRecDepth 20000

def subM (e : List (Nat × MV)) : List (Nat × MV) → Prop
 | [] => True
 | (k, v) :: r => mlk e k = v ∧ subM e r
theorem subM_lk {e : List (Nat × MV)} : ∀ {e' : List (Nat × MV)}, subM e e' → ∀ t, mlk e' t = .any ∨ mlk e' t = mlk e t
 | [], _, t => .inl rfl
 | (k, v) :: r, h, t => by
  simp only [mlk]
  split
  ·next hk => subst hk; exact .inr h.1.symm
  ·exact subM_lk h.2 t
theorem MEnt.env {bx : Bool} {ds ds' : List D} {e e' : List (Nat × MV)} (hd : ds' = ds) (h : subM e e') : MEnt ⟨bx, ds, e⟩ ⟨bx, ds', e'⟩ := ⟨rfl, hd, subM_lk h⟩

section
variable {α : Type} {mk : α → Int → α} {cnt : α → Nat}
end
def one {α : Type} (_ : α) : Nat := 1
section
variable {α : Type} {f : α → D} {mk : α → Int → α} {cnt : α → Nat}
end
section
variable {α : Type} {f : α → D} {mk : α → Int → α} {cnt : α → Nat}
end
end Go.Ax
namespace Go.Ax
set_option maxRecDepth 20000
set_option maxHeartbeats 4000000
theorem Ex.ex (e : Ex) : ∃ k n nn ks, e = .mk k n nn ks := by cases e; exact ⟨_, _, _, _, rfl⟩

end Go.Ax
namespace Go.Ax

def delsS : List Nat → St → St
 | [], st => st
 | k :: ks, st => delsS ks (st.del k)
theorem Ent.dels : ∀ (ks : List Nat) (st : St), Ent st (delsS ks st)
 | [], st => Ent.refl st
 | k :: ks, st => Ent.trans (Ent.del st k) (Ent.dels ks (st.del k))
@[go_sem] theorem delsS_nil {st : St} : delsS [] st = st := rfl
@[go_sem] theorem delsS_cons {k : Nat} {ks : List Nat} {st : St} : delsS (k :: ks) st = delsS ks (st.del k) := rfl

theorem lk_map {v : AV} {e : List (Nat × AV)} {t : Nat} : ∀ {ts : List Nat}, lk (ts.map (fun t => (t, v)) ++ e) t = if t ∈ ts then v else lk e t
 | [] => by simp
 | a :: ts => by
  simp only [lC, List.cons_append, lk, lk_map (ts := ts), List.mem_cons]
  by_cases h : a = t
  ·simp [h]
  ·simp [h, Ne.symm h]

theorem Ent.ren (st : St) (k k' : Nat) (ts : List Nat) (d : D) (hu : lu st.us k = some (.own d)) (hk : noU k' (st.del k).us = true) (ht : ∀ t ∈ ts, lk st.env t = .tr k) :
  Ent st ⟨st.n, ts.map (fun t => (t, .tr k')) ++ (st.del k).env, (k', .own d) :: (st.del k).us⟩ := by
 intro n0 S0 M0 w0 a w hs
 obtain ⟨g, hU0, hv⟩ := hs.gh
 have hm := mem_of_lu hu
 obtain ⟨hU, hK⟩ := hU0.del k
 have hown := hU0.each _ hm
 simp only [UOk] at hown
 obtain ⟨h1, h2, h3⟩ := hown
 have hφ : ∀ b ∈ g.φ k, b ∈ fp g st.us := fun b hb => mem_fp.2 ⟨_, hm, hb⟩
 have hno : ∀ b ∈ g.φ k, b ∉ fp (g.drop k) (killU k (AV.refs k) st.us) := by
  intro b hb hb2
  obtain ⟨x, hx, hbx⟩ := mem_fp.1 hb2
  obtain ⟨hne, u, hx1, _⟩ := of_mem_killU hx
  have hbx' : b ∈ g.φ x.1 := by simpa [Gh.drop, hne] using hbx
  exact hne (fp_apart hU0.keys hU0.nodup hx1 hm hbx' hb)
 obtain ⟨hA, hV⟩ := hU.addG (u := .own d) (β := none) (cap := 0) (F := g.φ k) (v := g.root k) (n := k') (noU_spec hk) (fun b hb => h2.lt b hb) (phi_nodup hU0 hm) (fun b hb hlt => hU0.low b (hφ b hb) hlt) hno
  (fun b hb hS => (hU0.sh b hS).2.2 (hφ b hb)) (fun b hb => hU0.fz b (hφ b hb)) (by simp only [UOk, Gh.add, if_true]; exact ⟨trivial, h2, h3⟩)
 refine ⟨hs.ms, hs.dfr, hs.tm, hs.base, hs.os, hs.tape, hs.output, hs.size, hs.old, _, hA, fun t => ?_⟩
 simp only [lk_map]
 split
 ·next hmem =>
  have := hv t
  rw [ht t hmem] at this
  simp only [VRep] at this ⊢
  exact ⟨⟨d, by simp⟩, by simp [Gh.add, this.2]⟩
 ·exact hV _ _ (killE_rep (fun av v hf hr => VRep.keepR hK hf hr) (hv t))

theorem perm_of_sub {α : Type} : ∀ {l l' : List α}, l'.Nodup → (∀ x ∈ l', x ∈ l) → l.length = l'.length → l'.Perm l
 | [], l', _, _, hl => by
  have : l' = [] := List.length_eq_zero_iff.1 (by simpa using hl.symm)
  subst this; exact List.Perm.refl _
 | a :: l, l', hn, hs, hl => by
  by_cases ha : a ∈ l'
  ·obtain ⟨s, t, rfl⟩ := List.append_of_mem ha
   have hp : (s ++ a :: t).Perm (a :: (s ++ t)) := List.perm_middle
   have hn' := hp.nodup_iff.1 hn
   rw [List.nodup_cons] at hn'
   refine hp.trans (List.Perm.cons a (perm_of_sub hn'.2 ?_ (by simp at hl ⊢; omega)))
   intro x hx
   have := hs x (hp.mem_iff.2 (by simp [hx]))
   rcases List.mem_cons.1 this with rfl | h
   ·exact absurd hx hn'.1
   ·exact h
  ·exfalso
   have key : ∀ {m : List α} {l : List α}, m.Nodup → (∀ x ∈ m, x ∈ l) → m.length ≤ l.length := by
    intro m
    induction m with
    | nil => intro l _ _; simp
    | cons b m ih =>
     intro l hn hs
     rw [List.nodup_cons] at hn
     obtain ⟨s, t, rfl⟩ := List.append_of_mem (hs b (by simp))
     have := ih (l := s ++ t) hn.2 (fun x hx => by
      have h1 := hs x (by simp [hx])
      simp only [List.mem_append, List.mem_cons] at h1 ⊢
      rcases h1 with h1 | rfl | h1
      ·exact .inl h1
      ·exact absurd hx hn.1
      ·exact .inr h1)
     simp at this ⊢; omega
   have h2 : ∀ x ∈ l', x ∈ l := fun x hx => by
    rcases List.mem_cons.1 (hs x hx) with rfl | h
    ·exact absurd hx ha
    ·exact h
   have := key hn h2
   simp at hl; omega

def keysOk : List (Nat × U) → Bool
 | [] => true
 | (k, _) :: r => noU k r && keysOk r
theorem keysOk_nodup : ∀ {us : List (Nat × U)}, keysOk us = true → (us.map (·.1)).Nodup
 | [], _ => by simp
 | (k, u) :: r, h => by
  simp only [keysOk, bA] at h
  simp only [lC, List.nodup_cons]
  exact ⟨noU_spec h.1, keysOk_nodup h.2⟩

theorem Ent.to {n : Nat} {e e1 e' : List (Nat × AV)} {us us1 us' : List (Nat × U)} (ks : List Nat) (h1 : delsS ks ⟨n, e, us⟩ = ⟨n, e1, us1⟩) (hk : keysOk us' = true) (hm : ∀ x ∈ us', x ∈ us1) (hl : us1.length = us'.length) (he : subEnv e1 e') : Ent ⟨n, e, us⟩ ⟨n, e', us'⟩ := by
 refine Ent.trans (Ent.dels ks _) ?_
 rw [h1]
 refine Ent.trans (Ent.perm (us' := us') (perm_of_sub ?_ hm hl)) (Ent.env he)
 have := keysOk_nodup hk
 exact List.Pairwise.of_map (·.1) (fun a b h e => h (e ▸ rfl)) this

theorem vc_onU {P : Program} {c : RC} {K : Exit → St → Prop} {α : Type} {n : Nat} {env : List (Nat × AV)} {us : List (Nat × U)} (ks : List Nat) (upd : α → List (Nat × AV)) (U : α → List (Nat × U)) (J : α → Prop) (μ : α → Nat) (x0 : α)
  (h0 : Ent ⟨n, env, us⟩ ⟨n, upd x0 ++ keep ks env, U x0⟩) (hJ : J x0)
  (h : ∀ x, J x → vcR P c ⟨n, upd x ++ keep ks env, U x⟩ (kseq (fun s => ∃ y, J y ∧ μ y < μ x ∧ Ent s ⟨n, upd y ++ keep ks env, U y⟩) K)) : vcR P (.loop c) ⟨n, env, us⟩ K :=
 vc_loop (fun x => ⟨n, upd x ++ keep ks env, U x⟩) J μ x0 h0 hJ h

theorem argsOf_ims {un : Nat → Option Ax.U} {t : Option Nat} : ∀ {ds : List D}, argsOf un (ds.map (.im t)) = some ds
 | [] => by simp [argsOf]
 | d :: ds => by simp [argsOf, AV.arg, argsOf_ims (ds := ds)]
theorem D.Le.of_eq {d e : D} (h : d = e) : d.Le e := h ▸ D.Le.refl _

theorem AF.sh {P : Program} {f : Nat} {ds : List D} {d : D} (h : AF P f ds (.own d)) : AF P f ds (.sh d) := by
 refine ⟨h.1, fun w vs old ha => (h.2 w vs old ha).mono ?_⟩
 rintro e w' ⟨v, F, G, rfl, hB, hR, hn, hF, hG⟩
 simp only [RetRep] at hR
 obtain ⟨rfl, hR, hf⟩ := hR
 refine ⟨v, [], F, rfl, hB, by simp only [RetRep]; exact ⟨trivial, hR, hf⟩, List.nodup_nil, by simp, fun b hb => .inl ⟨(hF b hb).1, hR.lt b hb⟩⟩

def nnL {α : Type} (l : List α) : Option Bool := match l with | [] => some true | _ => some false
theorem nnL_pos {α : Type} {l : List α} (h : 0 < l.length) : nnL l = some false := by cases l with | nil => simp at h | cons => rfl
theorem nnL_take {α : Type} {l : List α} {i : Nat} (h : i < l.length) : nnL (l.take (i + 1)) = some false := nnL_pos (by simp; omega)
theorem map_take {α β : Type} {f : α → β} {l : List α} {i : Nat} (h : i < l.length) : (l.take (i + 1)).map f = (l.take i).map f ++ [f l[i]] := by rw [List.take_succ_eq_append_getElem h, List.map_append]; rfl

def tabL {α : Type} (n : Nat) (g : Nat → α) : List α := (List.range n).map g
theorem tabL_len {α : Type} {n : Nat} {g : Nat → α} : (tabL n g).length = n := by simp [tabL]
theorem tabL_zero {α : Type} {g : Nat → α} : tabL 0 g = [] := rfl
theorem tabL_succ {α : Type} {n : Nat} {g : Nat → α} : tabL (n + 1) g = tabL n g ++ [g n] := by simp [tabL, List.range_succ]
theorem tabL_map {α β : Type} {n : Nat} {g : Nat → α} {f : α → β} : (tabL n g).map f = tabL n fun i => f (g i) := by simp [tabL, Function.comp_def]

end Go.Ax
namespace Go.Ax
set_option maxRecDepth 20000
set_option maxHeartbeats 4000000
end Go.Ax
namespace Go.Ax
set_option maxRecDepth 20000
set_option maxHeartbeats 4000000
end Go.Ax
namespace Go.Ax
set_option maxRecDepth 20000
set_option maxHeartbeats 4000000

def k_l01Drawn (f1 : Nat) : RC := (.seq (.reg false [⟨none, .box 4 2 (.t 1)⟩, ⟨none, .zer 6 3 (.ag [(.sc (.int .i64 0)), (.sc (.int .i64 0)), (.ls (some true) 3 [])])⟩]) ((.seq (.reg false [⟨none, .mv 8 (.t 0)⟩, ⟨none, .ld 9 true 2 (.t 4)⟩, ⟨none, .mv 10 (.t 2)⟩, ⟨none, .bld 11 (.ag [(.sc (.pointer none)), (.sc (.int .i64 0)), (.sc (.int .i64 0)), (.sc (.int .i64 0))]) [(0, 1, (.t 8)), (1, 2, (.t 9)), (3, 1, (.t 10))]⟩, ⟨none, .box 12 4 (.t 11)⟩, ⟨none, .mv 7 (.t 12)⟩]) ((.seq (.reg false [⟨none, .mv 13 (.t 7)⟩, ⟨none, .wcl (some 14) f1 [(.t 13), (.c (.sc (.bool false))), (.c (.sc (.int .i64 6)))]⟩, ⟨none, .st 3 (.t 6) (.t 14)⟩]) (.ret))))))
def K_l01Drawn (P : Program) (fno : Nat) : Prop := ∀ (nn : Option Bool) (c : List Int) (a sd : Int) (g : Int × Int) (m : Int), srcOk c → okG g = true → 0 ≤ a → a ≤ 100000000 → 1 ≤ m → m ≤ 1000 → ∃ a' sd' e, a ≤ a' ∧ a' ≤ a + 28000 ∧ Drn g false (2 * m - 1) 7 e ∧ AFW P fno [uS nn c a sd] [.pw 3000000000 0 0, .im none (eG g), .im none (eI m)] [uS nn c a' sd'] (.own (eE e))
theorem a_l01Drawn {P : Program} (hm : P.follows .mixedOrders = true) {g f1 : Nat} (hr : resF P g = some (15, k_l01Drawn f1, [.c 6 3 true])) (hc1 : K_genExpr P f1) : K_l01Drawn P g := by
 intro nn c a sd g m hc hg h0 hA hm1 hm2
 obtain ⟨a1, sd1, e, s1, s2, s3, s4, s5, hE⟩ := hc1 nn c g hc hg 6 6 a sd m false rfl h0 (by omega) (by omega) hm2
 have h1 := s3.2.2.2.1
 have h2 : (sizeE e : Int) ≤ 2 * m - 1 := by by_cases h : 1 < m; exact s5 h; have := s4 (by omega); omega
 refine ⟨a1, sd1, e, by omega, by omega, ⟨s3.1, s3.2.1, s3.2.2.1, s3.2.2.2.1, h2, s3.2.2.2.2.2⟩, ?_⟩
 refine afw_of_res (wv := .no) hr hm rfl rfl rfl fun hb ha => ?_
 simp +contextual -implicitDefEqProofs only [k_l01Drawn, uS, srcD, eI, eG, D.size, D.sizeL, go_sem, ↓reduceIte, Nat.reduceEqDiff, Nat.reduceAdd, Nat.reduceLeDiff, Nat.reduceBneDiff, Nat.reduceLT, Nat.reduceSub]
 refine ⟨by decide, ?_⟩
 refine wcl_self [12, 3000000000] [] (by rfl) (by rfl) (by rfl) hE rfl (by simp [wOut, outU, uS, uR, srcD, okWL, AV.okW, noPtrs, D.noPtr, shWL, AV.shW, posW, shUs, U.shW, St.unit, lu, eI, D.flat]) ?_
 simp +contextual -implicitDefEqProofs only [uS, uR, srcD, eI, eE_size, eE_isAg, encE.sub, eE_flatX, D.put, modeOf, noPtrs, go_sem, ↓reduceIte, Nat.reduceEqDiff, Nat.reduceAdd, Nat.reduceLeDiff, Nat.reduceBEq, Nat.reduceBneDiff, Nat.reduceLT, Nat.reduceSub]

def k_p6Expr (f1 f2 : Nat) : RC := (.seq (.reg false [⟨none, .box 4 2 (.t 1)⟩, ⟨none, .zer 6 3 (.ag [(.sc (.int .i64 0)), (.sc (.int .i64 0)), (.ls (some true) 3 [])])⟩]) ((.seq (.reg true [⟨none, .mv 7 (.t 0)⟩, ⟨none, .call (some 8) f1 [(.t 7)]⟩, ⟨none, .ld 9 true 2 (.t 4)⟩, ⟨none, .mv 10 (.t 2)⟩, ⟨none, .wcl (some 11) f2 [(.t 8), (.t 9), (.t 10)]⟩, ⟨none, .st 3 (.t 6) (.t 11)⟩]) (.ret))))
def K_p6Expr (P : Program) (fno : Nat) : Prop := ∀ (nn : Option Bool) (c : List Int) (g : Int × Int) (m : Int), srcOk c → okG g = true → 1 ≤ m → m ≤ 1000 → ∃ e, Drn g false (2 * m - 1) 7 e ∧ AF P fno [.ls nn 1 (c.map eU), eG g, eI m] (.own (eE e))
theorem a_p6Expr {P : Program} (hm : P.follows .mixedOrders = true) {g f1 f2 : Nat} (hr : resF P g = some (12, k_p6Expr f1 f2, [.c 6 3 true])) (hc1 : K_l00From P f1) (hc2 : K_l01Drawn P f2) : K_p6Expr P g := by
 intro nn c g m hc hg h1 h2
 obtain ⟨a1, sd1, e, s1, s2, s3, hE⟩ := hc2 nn c 0 0 g m hc hg (by omega) (by omega) h1 h2
 refine ⟨e, s3, ?_⟩
 refine af_of_res hr hm rfl fun hb => ?_
 simp +contextual -implicitDefEqProofs only [k_p6Expr, eI, eG, D.size, D.sizeL, go_sem, ↓reduceIte, Nat.reduceEqDiff, Nat.reduceAdd, Nat.reduceBneDiff, Nat.reduceLT]
 refine callQ_self ?_ (hc1 nn c) ?_
 ·exact rfl
 simp +contextual -implicitDefEqProofs only [srcD, D.size, D.sizeL, go_sem, ↓reduceIte, Nat.reduceEqDiff, Nat.reduceAdd, Nat.reduceLeDiff, Nat.reduceBneDiff]
 refine wcl_self [8] [] (by rfl) (by rfl) (by rfl) hE rfl (by simp [wOut, outU, uS, srcD, noPtrs, D.noPtr, shWL, AV.shW, posW, shUs, U.shW, St.unit, lu]) ?_
 simp +contextual -implicitDefEqProofs only [uS, srcD, eE_size, eE_isAg, encE.sub, eE_flatX, D.put, modeOf, noPtrs, go_sem, ↓reduceIte, Nat.reduceEqDiff, Nat.reduceLeDiff, Nat.reduceBEq, Nat.reduceBneDiff, Nat.reduceLT]

end Go.Ax
namespace Go.Ax
abbrev Mo := (Int × Int) × Int × SL (SL Bool) × SL (SL (SL Bool))
def eM (m : Mo) : D := .ag [eI m.1.1, eI m.1.2, eI m.2.1, eS 1 (eS 1 eB) m.2.2.1, eS 1 (eS 1 (eS 1 eB)) m.2.2.2]
def lenIs {α : Type} (c : Int) (x : SL α) : Bool := (x.2.length : Int) == c
def tabOk {α : Type} (r c : Int) (t : SL (SL α)) : Bool := lenIs r t && t.2.all (lenIs c)
def testsOk (g : Int × Int) (p : Int) (t : SL (SL Bool)) : Bool := okG g && (isIn p 1 8 && tabOk g.1 p t)
def actsOk {α : Type} (g : Int × Int) (p : Int) (t : SL (SL (SL α))) : Bool := lenIs g.2 t && t.2.all (tabOk p p)

def k_isTableB : RC := (.seq (.reg false [⟨none, .mv 6 (.c (.sc (.bool false)))⟩]) ((.seq ((.seq (.reg false [⟨none, .mv 9 (.t 0)⟩, ⟨none, .len 10 (.t 9)⟩, ⟨none, .mv 11 (.t 1)⟩, ⟨none, .bin 12 .neq (.t 10) (.t 11)⟩]) (.cond (.t 12) ((.seq (.reg false [⟨none, .mv 6 (.c (.sc (.bool false)))⟩]) (.ret))) (.skip)))) ((.seq ((.seq (.reg false [⟨none, .mv 13 (.t 0)⟩, ⟨none, .len 14 (.t 13)⟩, ⟨none, .mv 15 (.c (.sc (.int .i64 0)))⟩]) (.blk 0 (.loop ((.seq (.reg false [⟨none, .bin 16 .lss (.t 15) (.t 14)⟩]) ((.seq (.cond (.t 16) (.skip) (.exit 0)) ((.seq (.blk 1 ((.seq (.reg false [⟨none, .ia 17 1 (.t 13) (.t 15)⟩, ⟨none, .ld 18 false 1 (.t 17)⟩, ⟨none, .mv 8 (.t 18)⟩]) ((.seq (.reg false [⟨none, .mv 19 (.t 8)⟩, ⟨none, .len 20 (.t 19)⟩, ⟨none, .mv 21 (.t 2)⟩, ⟨none, .bin 22 .neq (.t 20) (.t 21)⟩]) (.cond (.t 22) ((.seq (.reg false [⟨none, .mv 6 (.c (.sc (.bool false)))⟩]) (.ret))) (.skip))))))) (.reg false [⟨none, .bin 23 .add (.t 15) (.c (.sc (.int .i64 1)))⟩, ⟨none, .mv 15 (.t 23)⟩]))))))))))) ((.seq (.reg false [⟨none, .mv 6 (.c (.sc (.bool true)))⟩]) (.ret))))))))
def K_isTableB (P : Program) (f : Nat) : Prop := ∀ (t : SL (SL Bool)) (r c : Int), AF P f [eS 1 (eS 1 eB) t, eI r, eI c] (.own (eB (tabOk r c t)))
theorem a_isTableB {P : Program} (hm : P.follows .mixedOrders = true) {g : Nat} (hr : resF P g = some (24, k_isTableB, [.t 6])) : K_isTableB P g := by
 intro t r c
 refine af_of_res hr hm rfl fun hb => ?_
 have hl := bd_ls hb.1
 simp only [lM] at hl
 cases h0 : lenIs r t
 ·have h0' := h0
  simp only [lenIs] at h0'
  simp +contextual -implicitDefEqProofs only [k_isTableB, eS, lM, h0', tabOk, h0, bne, bN, Bool.false_and, go_sem, eI, eB, ↓reduceIte, Nat.reduceEqDiff, Nat.reduceAdd]
 have h0' := h0
 simp only [lenIs] at h0'
 simp +contextual -implicitDefEqProofs only [k_isTableB, eS, lM, h0', bne, bT, go_sem, eI, eB, ↓reduceIte, Nat.reduceEqDiff, Nat.reduceAdd]
 refine vc_on (α := Nat) [6, 8, 15, 16, 17, 18, 19, 20, 21, 22, 23] (fun i => [(15, .im none (.sc (.int .i64 i)))]) (fun i => i ≤ t.2.length ∧ (t.2.take i).all (lenIs c) = true) (fun i => t.2.length - i) 0 (by simp only [subEnv, go_sem, ↓reduceIte]; simp) ⟨Nat.zero_le _, rfl⟩ ?_
 rintro i ⟨j1, j2⟩
 by_cases hi : i < t.2.length
 ·have e1 := at_map (f := eS 1 eB) hi
  simp +contextual -implicitDefEqProofs only [e1, hi, iL, lM, iN, go_sem, ↓reduceIte, Nat.reduceEqDiff, Nat.reduceLT]
  cases hx : lenIs c t.2[i]
  ·have hx' := hx
   simp only [lenIs] at hx'
   simp +contextual -implicitDefEqProofs only [eS, lM, bne, hx', bN, go_sem, ↓reduceIte, Nat.reduceEqDiff, Nat.reduceLeDiff]
   exact D.Le.sc_eq (by simp only [tabOk, h0]; rw [all_fail hi hx]; rfl)
  ·have hx' := hx
   simp only [lenIs] at hx'
   simp +contextual -implicitDefEqProofs only [eS, lM, bne, hx', bT, go_sem, ↓reduceIte, Nat.reduceEqDiff, Nat.reduceLeDiff]
   rw [wrap_i64 (by omega) (by omega)]
   exact ⟨i + 1, ⟨by omega, all_take_succ hi j2 hx⟩, by omega, Ent.env (by simp only [subEnv, go_sem, ↓reduceIte, Nat.reduceEqDiff]; simp)⟩
 ·simp +contextual -implicitDefEqProofs only [hi, iL, go_sem, ↓reduceIte, Nat.reduceEqDiff]
  exact D.Le.sc_eq (by simp only [tabOk, h0]; rw [all_of_take hi j2]; rfl)

def k_l05Tests (f1 f2 : Nat) : RC := (.seq (.reg false [⟨none, .box 3 2 (.t 0)⟩, ⟨none, .mv 6 (.c (.sc (.bool false)))⟩]) ((.seq ((.seq (.reg false [⟨none, .ld 8 true 2 (.t 3)⟩, ⟨none, .call (some 9) f1 [(.t 8)]⟩, ⟨none, .un 10 .not (.t 9)⟩, ⟨none, .mv 11 (.t 10)⟩, ⟨some (11, false), .mv 12 (.t 1)⟩, ⟨some (11, false), .call (some 13) f2 [(.t 12), (.c (.sc (.int .i64 1))), (.c (.sc (.int .i64 8)))]⟩, ⟨some (11, false), .un 14 .not (.t 13)⟩, ⟨none, .pick 15 (.t 11) (.c (.sc (.bool true))) (.t 14)⟩, ⟨none, .mv 16 (.t 15)⟩, ⟨some (16, false), .mv 17 (.t 2)⟩, ⟨some (16, false), .len 18 (.t 17)⟩, ⟨some (16, false), .fa 19 0 (.t 3)⟩, ⟨some (16, false), .ld 20 false 1 (.t 19)⟩, ⟨some (16, false), .bin 21 .neq (.t 18) (.t 20)⟩, ⟨none, .pick 22 (.t 16) (.c (.sc (.bool true))) (.t 21)⟩]) (.cond (.t 22) ((.seq (.reg false [⟨none, .mv 6 (.c (.sc (.bool false)))⟩]) (.ret))) (.skip)))) ((.seq ((.seq (.reg false [⟨none, .mv 7 (.c (.sc (.int .i64 0)))⟩]) (.blk 0 (.loop ((.seq ((.seq (.reg false [⟨none, .mv 23 (.t 7)⟩, ⟨none, .mv 24 (.t 2)⟩, ⟨none, .len 25 (.t 24)⟩, ⟨none, .bin 26 .lss (.t 23) (.t 25)⟩]) (.cond (.t 26) (.skip) (.exit 0)))) ((.seq (.blk 1 ((.seq (.reg false [⟨none, .mv 29 (.t 2)⟩, ⟨none, .mv 30 (.t 7)⟩, ⟨none, .ia 31 1 (.t 29) (.t 30)⟩, ⟨none, .ld 32 false 1 (.t 31)⟩, ⟨none, .len 33 (.t 32)⟩, ⟨none, .mv 34 (.t 1)⟩, ⟨none, .bin 35 .neq (.t 33) (.t 34)⟩]) (.cond (.t 35) ((.seq (.reg false [⟨none, .mv 6 (.c (.sc (.bool false)))⟩]) (.ret))) (.skip))))) (.reg false [⟨none, .mv 27 (.t 7)⟩, ⟨none, .bin 28 .add (.t 27) (.c (.sc (.int .i64 1)))⟩, ⟨none, .mv 7 (.t 28)⟩]))))))))) ((.seq (.reg false [⟨none, .mv 6 (.c (.sc (.bool true)))⟩]) (.ret))))))))
def K_l05Tests (P : Program) (f : Nat) : Prop := ∀ (g : Int × Int) (p : Int) (t : SL (SL Bool)), AF P f [eG g, eI p, eS 1 (eS 1 eB) t] (.own (eB (testsOk g p t)))
theorem a_l05Tests {P : Program} (hm : P.follows .mixedOrders = true) {g f1 f2 : Nat} (hr : resF P g = some (36, k_l05Tests f1 f2, [.t 6])) (hc1 : K_l01Sig P f1) (hc2 : K_l00In P f2) : K_l05Tests P g := by
 intro g p t
 refine af_of_res hr hm rfl fun hb => ?_
 have hl := bd_ls hb.2.2.1
 simp only [lM] at hl
 simp +contextual -implicitDefEqProofs only [k_l05Tests, eG, eS, go_sem, eI, eB, ↓reduceIte, Nat.reduceEqDiff, Nat.reduceAdd, Nat.reduceLeDiff, Nat.reduceLT]
 refine callQ_self ?_ (hc1 g) ?_
 ·exact rfl
 cases hg : okG g
 ·simp +contextual -implicitDefEqProofs only [testsOk, hg, bN, Bool.false_and, go_sem, eB, ↓reduceIte, Nat.reduceEqDiff]
 simp +contextual -implicitDefEqProofs only [bT, go_sem, eB, ↓reduceIte, Nat.reduceEqDiff]
 refine callQ_self ?_ (hc2 p 1 8) ?_
 ·exact rfl
 cases hp : isIn p 1 8
 ·simp +contextual -implicitDefEqProofs only [testsOk, hg, hp, bN, Bool.false_and, Bool.and_false, go_sem, eB, ↓reduceIte, Nat.reduceEqDiff]
 cases h0 : lenIs g.1 t
 ·have h0' := h0
  simp only [lenIs] at h0'
  simp +contextual -implicitDefEqProofs only [testsOk, tabOk, hg, hp, h0, h0', lM, bne, bT, bN, Bool.false_and, Bool.and_false, go_sem, eB, ↓reduceIte, Nat.reduceEqDiff, Nat.reduceLeDiff, Nat.reduceLT]
 have h0' := h0
 simp only [lenIs] at h0'
 simp +contextual -implicitDefEqProofs only [h0', lM, bne, bT, go_sem, eB, ↓reduceIte, Nat.reduceEqDiff, Nat.reduceLeDiff, Nat.reduceLT]
 refine vc_on (α := Nat) [6, 7, 23, 24, 25, 26, 27, 28, 29, 30, 31, 32, 33, 34, 35] (fun i => [(7, .im none (.sc (.int .i64 i)))]) (fun i => i ≤ t.2.length ∧ (t.2.take i).all (lenIs p) = true) (fun i => t.2.length - i) 0 (by simp only [subEnv, go_sem, ↓reduceIte]; simp) ⟨Nat.zero_le _, rfl⟩ ?_
 rintro i ⟨j1, j2⟩
 by_cases hi : i < t.2.length
 ·have e1 := at_map (f := eS 1 eB) hi
  simp +contextual -implicitDefEqProofs only [e1, hi, iL, lM, iN, go_sem, ↓reduceIte, Nat.reduceEqDiff, Nat.reduceLT]
  cases hx : lenIs p t.2[i]
  ·have hx' := hx
   simp only [lenIs] at hx'
   simp +contextual -implicitDefEqProofs only [eS, lM, bne, hx', bN, go_sem, ↓reduceIte, Nat.reduceEqDiff, Nat.reduceLeDiff]
   exact D.Le.sc_eq (by simp only [testsOk, tabOk, hg, hp, h0]; rw [all_fail hi hx]; rfl)
  ·have hx' := hx
   simp only [lenIs] at hx'
   simp +contextual -implicitDefEqProofs only [eS, lM, bne, hx', bT, go_sem, ↓reduceIte, Nat.reduceEqDiff, Nat.reduceLeDiff]
   rw [wrap_i64 (by omega) (by omega)]
   exact ⟨i + 1, ⟨by omega, all_take_succ hi j2 hx⟩, by omega, Ent.env (by simp only [subEnv, go_sem, ↓reduceIte, Nat.reduceEqDiff]; simp)⟩
 ·simp +contextual -implicitDefEqProofs only [hi, iL, lM, go_sem, ↓reduceIte, Nat.reduceEqDiff]
  exact D.Le.sc_eq (by simp only [testsOk, tabOk, hg, hp, h0]; rw [all_of_take hi j2]; rfl)

def k_isFrameB (f1 f2 f3 : Nat) : RC := (.seq (.reg false [⟨none, .box 4 2 (.t 0)⟩, ⟨none, .mv 8 (.c (.sc (.bool false)))⟩]) ((.seq ((.seq (.reg false [⟨none, .ld 11 true 2 (.t 4)⟩, ⟨none, .call (some 12) f1 [(.t 11)]⟩, ⟨none, .un 13 .not (.t 12)⟩, ⟨none, .mv 14 (.t 13)⟩, ⟨some (14, false), .mv 15 (.t 1)⟩, ⟨some (14, false), .call (some 16) f2 [(.t 15), (.c (.sc (.int .i64 1))), (.c (.sc (.int .i64 8)))]⟩, ⟨some (14, false), .un 17 .not (.t 16)⟩, ⟨none, .pick 18 (.t 14) (.c (.sc (.bool true))) (.t 17)⟩, ⟨none, .mv 19 (.t 18)⟩, ⟨some (19, false), .mv 20 (.t 2)⟩, ⟨some (19, false), .fa 21 0 (.t 4)⟩, ⟨some (19, false), .ld 22 false 1 (.t 21)⟩, ⟨some (19, false), .mv 23 (.t 1)⟩, ⟨some (19, false), .call (some 24) f3 [(.t 20), (.t 22), (.t 23)]⟩, ⟨some (19, false), .un 25 .not (.t 24)⟩, ⟨none, .pick 26 (.t 19) (.c (.sc (.bool true))) (.t 25)⟩, ⟨none, .mv 27 (.t 26)⟩, ⟨some (27, false), .mv 28 (.t 3)⟩, ⟨some (27, false), .len 29 (.t 28)⟩, ⟨some (27, false), .fa 30 1 (.t 4)⟩, ⟨some (27, false), .ld 31 false 1 (.t 30)⟩, ⟨some (27, false), .bin 32 .neq (.t 29) (.t 31)⟩, ⟨none, .pick 33 (.t 27) (.c (.sc (.bool true))) (.t 32)⟩]) (.cond (.t 33) ((.seq (.reg false [⟨none, .mv 8 (.c (.sc (.bool false)))⟩]) (.ret))) (.skip)))) ((.seq ((.seq (.reg false [⟨none, .mv 34 (.t 3)⟩, ⟨none, .len 35 (.t 34)⟩, ⟨none, .mv 36 (.c (.sc (.int .i64 0)))⟩]) (.blk 0 (.loop ((.seq (.reg false [⟨none, .bin 37 .lss (.t 36) (.t 35)⟩]) ((.seq (.cond (.t 37) (.skip) (.exit 0)) ((.seq (.blk 1 ((.seq (.reg false [⟨none, .ia 38 1 (.t 34) (.t 36)⟩, ⟨none, .ld 39 false 1 (.t 38)⟩, ⟨none, .mv 10 (.t 39)⟩]) ((.seq (.reg false [⟨none, .mv 40 (.t 10)⟩, ⟨none, .mv 41 (.t 1)⟩, ⟨none, .mv 42 (.t 1)⟩, ⟨none, .call (some 43) f3 [(.t 40), (.t 41), (.t 42)]⟩, ⟨none, .un 44 .not (.t 43)⟩]) (.cond (.t 44) ((.seq (.reg false [⟨none, .mv 8 (.c (.sc (.bool false)))⟩]) (.ret))) (.skip))))))) (.reg false [⟨none, .bin 45 .add (.t 36) (.c (.sc (.int .i64 1)))⟩, ⟨none, .mv 36 (.t 45)⟩]))))))))))) ((.seq (.reg false [⟨none, .mv 8 (.c (.sc (.bool true)))⟩]) (.ret))))))))
def K_isFrameB (P : Program) (f : Nat) : Prop := ∀ (g : Int × Int) (p : Int) (u : SL (SL Bool)) (t : SL (SL (SL Bool))), AF P f [eG g, eI p, eS 1 (eS 1 eB) u, eS 1 (eS 1 (eS 1 eB)) t] (.own (eB (testsOk g p u && actsOk g p t)))
theorem a_isFrameB {P : Program} (hm : P.follows .mixedOrders = true) {g f1 f2 f3 : Nat} (hr : resF P g = some (46, k_isFrameB f1 f2 f3, [.t 8])) (hc1 : K_validSig P f1) (hc2 : K_within P f2) (hc3 : K_isTableB P f3) : K_isFrameB P g := by
 intro g p u t
 refine af_of_res hr hm rfl fun hb => ?_
 have hl := bd_ls hb.2.2.2.1
 simp only [lM] at hl
 simp +contextual -implicitDefEqProofs only [k_isFrameB, eG, eS, go_sem, eI, eB, ↓reduceIte, Nat.reduceEqDiff, Nat.reduceAdd, Nat.reduceLeDiff, Nat.reduceLT]
 refine callQ_self ?_ (hc1 g) ?_
 ·exact rfl
 cases hg : okG g
 ·simp +contextual -implicitDefEqProofs only [testsOk, hg, bN, Bool.false_and, go_sem, eB, ↓reduceIte, Nat.reduceEqDiff]
 simp +contextual -implicitDefEqProofs only [bT, go_sem, eB, ↓reduceIte, Nat.reduceEqDiff]
 refine callQ_self ?_ (hc2 p 1 8) ?_
 ·exact rfl
 cases hp : isIn p 1 8
 ·simp +contextual -implicitDefEqProofs only [testsOk, hg, hp, bN, Bool.false_and, Bool.and_false, go_sem, eB, ↓reduceIte, Nat.reduceEqDiff]
 simp +contextual -implicitDefEqProofs only [bT, go_sem, eB, ↓reduceIte, Nat.reduceEqDiff, Nat.reduceLeDiff, Nat.reduceLT]
 refine callQ_self ?_ (hc3 u g.1 p) ?_
 ·exact rfl
 cases hu : tabOk g.1 p u
 ·simp +contextual -implicitDefEqProofs only [testsOk, hg, hp, hu, bN, Bool.false_and, Bool.and_false, go_sem, eB, ↓reduceIte, Nat.reduceEqDiff]
 have hT : testsOk g p u = true := by simp [testsOk, hg, hp, hu]
 cases h0 : lenIs g.2 t
 ·have h0' := h0
  simp only [lenIs] at h0'
  simp +contextual -implicitDefEqProofs only [actsOk, hT, h0, h0', lM, bne, bT, bN, Bool.false_and, Bool.and_false, go_sem, eB, ↓reduceIte, Nat.reduceEqDiff, Nat.reduceAdd, Nat.reduceLeDiff, Nat.reduceLT]
 have h0' := h0
 simp only [lenIs] at h0'
 simp +contextual -implicitDefEqProofs only [h0', lM, bne, bT, go_sem, eB, ↓reduceIte, Nat.reduceEqDiff, Nat.reduceAdd, Nat.reduceLeDiff, Nat.reduceLT]
 refine vc_on (α := Nat) [8, 10, 36, 37, 38, 39, 40, 41, 42, 43, 44, 45] (fun i => [(36, .im none (.sc (.int .i64 i)))]) (fun i => i ≤ t.2.length ∧ (t.2.take i).all (tabOk p p) = true) (fun i => t.2.length - i) 0 (by simp only [subEnv, go_sem, ↓reduceIte]; simp) ⟨Nat.zero_le _, rfl⟩ ?_
 rintro i ⟨j1, j2⟩
 by_cases hi : i < t.2.length
 ·have e1 := at_map (f := eS 1 (eS 1 eB)) hi
  simp +contextual -implicitDefEqProofs only [eS, e1, hi, iL, lM, iN, go_sem, ↓reduceIte, Nat.reduceEqDiff, Nat.reduceLeDiff, Nat.reduceLT]
  refine callQ_self ?_ (hc3 t.2[i] p p) ?_
  ·exact rfl
  cases hx : tabOk p p t.2[i]
  ·simp +contextual -implicitDefEqProofs only [bN, go_sem, eB, ↓reduceIte]
   exact D.Le.sc_eq (by simp only [actsOk, hT, h0]; rw [all_fail hi hx]; rfl)
  ·simp +contextual -implicitDefEqProofs only [bT, go_sem, eB, ↓reduceIte, Nat.reduceEqDiff]
   rw [wrap_i64 (by omega) (by omega)]
   exact ⟨i + 1, ⟨by omega, all_take_succ hi j2 hx⟩, by omega, Ent.env (by simp only [subEnv, go_sem, ↓reduceIte, Nat.reduceEqDiff]; simp)⟩
 ·simp +contextual -implicitDefEqProofs only [hi, iL, go_sem, ↓reduceIte, Nat.reduceEqDiff]
  exact D.Le.sc_eq (by simp only [actsOk, hT, h0]; rw [all_of_take hi j2]; rfl)

def okMo (m : Mo) : Bool := testsOk m.1 m.2.1 m.2.2.1 && actsOk m.1 m.2.1 m.2.2.2

def k_l05Ok (f1 : Nat) : RC := (.seq (.reg false [⟨none, .mv 2 (.c (.sc (.bool false)))⟩]) ((.seq ((.seq (.reg true [⟨none, .mv 5 (.t 0)⟩, ⟨none, .nck 6 (.t 5)⟩, ⟨none, .fa 7 0 (.t 6)⟩, ⟨none, .ld 8 true 2 (.t 7)⟩, ⟨none, .mv 9 (.t 0)⟩, ⟨none, .nck 10 (.t 9)⟩, ⟨none, .fa 11 2 (.t 10)⟩, ⟨none, .ld 12 false 1 (.t 11)⟩, ⟨none, .mv 13 (.t 0)⟩, ⟨none, .nck 14 (.t 13)⟩, ⟨none, .fa 15 3 (.t 14)⟩, ⟨none, .ld 16 false 1 (.t 15)⟩, ⟨none, .call (some 17) f1 [(.t 8), (.t 12), (.t 16)]⟩, ⟨none, .un 18 .not (.t 17)⟩, ⟨none, .mv 19 (.t 18)⟩, ⟨some (19, false), .mv 20 (.t 0)⟩, ⟨some (19, false), .nck 21 (.t 20)⟩, ⟨some (19, false), .fa 22 4 (.t 21)⟩, ⟨some (19, false), .ld 23 false 1 (.t 22)⟩, ⟨some (19, false), .len 24 (.t 23)⟩, ⟨some (19, false), .mv 25 (.t 0)⟩, ⟨some (19, false), .nck 26 (.t 25)⟩, ⟨some (19, false), .fa 27 0 (.t 26)⟩, ⟨some (19, false), .fa 28 1 (.t 27)⟩, ⟨some (19, false), .ld 29 false 1 (.t 28)⟩, ⟨some (19, false), .bin 30 .neq (.t 24) (.t 29)⟩, ⟨none, .pick 31 (.t 19) (.c (.sc (.bool true))) (.t 30)⟩]) (.cond (.t 31) ((.seq (.reg false [⟨none, .mv 2 (.c (.sc (.bool false)))⟩]) (.ret))) (.skip)))) ((.seq ((.seq (.reg false [⟨none, .mv 3 (.c (.sc (.int .i64 0)))⟩]) (.blk 0 (.loop ((.seq ((.seq (.reg false [⟨none, .mv 32 (.t 3)⟩, ⟨none, .mv 33 (.t 0)⟩, ⟨none, .nck 34 (.t 33)⟩, ⟨none, .fa 35 4 (.t 34)⟩, ⟨none, .ld 36 false 1 (.t 35)⟩, ⟨none, .len 37 (.t 36)⟩, ⟨none, .bin 38 .lss (.t 32) (.t 37)⟩]) (.cond (.t 38) (.skip) (.exit 0)))) ((.seq (.blk 1 ((.seq ((.seq (.reg true [⟨none, .mv 41 (.t 0)⟩, ⟨none, .nck 42 (.t 41)⟩, ⟨none, .fa 43 4 (.t 42)⟩, ⟨none, .ld 44 false 1 (.t 43)⟩, ⟨none, .mv 45 (.t 3)⟩, ⟨none, .ia 46 1 (.t 44) (.t 45)⟩, ⟨none, .ld 47 false 1 (.t 46)⟩, ⟨none, .len 48 (.t 47)⟩, ⟨none, .mv 49 (.t 0)⟩, ⟨none, .nck 50 (.t 49)⟩, ⟨none, .fa 51 2 (.t 50)⟩, ⟨none, .ld 52 false 1 (.t 51)⟩, ⟨none, .bin 53 .neq (.t 48) (.t 52)⟩]) (.cond (.t 53) ((.seq (.reg false [⟨none, .mv 2 (.c (.sc (.bool false)))⟩]) (.ret))) (.skip)))) ((.seq (.reg false [⟨none, .mv 4 (.c (.sc (.int .i64 0)))⟩]) (.blk 2 (.loop ((.seq ((.seq (.reg false [⟨none, .mv 54 (.t 4)⟩, ⟨none, .mv 55 (.t 0)⟩, ⟨none, .nck 56 (.t 55)⟩, ⟨none, .fa 57 4 (.t 56)⟩, ⟨none, .ld 58 false 1 (.t 57)⟩, ⟨none, .mv 59 (.t 3)⟩, ⟨none, .ia 60 1 (.t 58) (.t 59)⟩, ⟨none, .ld 61 false 1 (.t 60)⟩, ⟨none, .len 62 (.t 61)⟩, ⟨none, .bin 63 .lss (.t 54) (.t 62)⟩]) (.cond (.t 63) (.skip) (.exit 2)))) ((.seq (.blk 3 ((.seq (.reg true [⟨none, .mv 66 (.t 0)⟩, ⟨none, .nck 67 (.t 66)⟩, ⟨none, .fa 68 4 (.t 67)⟩, ⟨none, .ld 69 false 1 (.t 68)⟩, ⟨none, .mv 70 (.t 3)⟩, ⟨none, .ia 71 1 (.t 69) (.t 70)⟩, ⟨none, .ld 72 false 1 (.t 71)⟩, ⟨none, .mv 73 (.t 4)⟩, ⟨none, .ia 74 1 (.t 72) (.t 73)⟩, ⟨none, .ld 75 false 1 (.t 74)⟩, ⟨none, .len 76 (.t 75)⟩, ⟨none, .mv 77 (.t 0)⟩, ⟨none, .nck 78 (.t 77)⟩, ⟨none, .fa 79 2 (.t 78)⟩, ⟨none, .ld 80 false 1 (.t 79)⟩, ⟨none, .bin 81 .neq (.t 76) (.t 80)⟩]) (.cond (.t 81) ((.seq (.reg false [⟨none, .mv 2 (.c (.sc (.bool false)))⟩]) (.ret))) (.skip))))) (.reg false [⟨none, .mv 64 (.t 4)⟩, ⟨none, .bin 65 .add (.t 64) (.c (.sc (.int .i64 1)))⟩, ⟨none, .mv 4 (.t 65)⟩])))))))))))) (.reg false [⟨none, .mv 39 (.t 3)⟩, ⟨none, .bin 40 .add (.t 39) (.c (.sc (.int .i64 1)))⟩, ⟨none, .mv 3 (.t 40)⟩]))))))))) ((.seq (.reg false [⟨none, .mv 2 (.c (.sc (.bool true)))⟩]) (.ret))))))))
def K_l05Ok (P : Program) (f : Nat) : Prop := ∀ (m : Mo), AF P f [.pt (eM m) 0] (.own (eB (okMo m)))
theorem a_l05Ok {P : Program} (hm : P.follows .mixedOrders = true) {g f1 : Nat} (hr : resF P g = some (82, k_l05Ok f1, [.t 2])) (hc1 : K_l05Tests P f1) : K_l05Ok P g := by
 intro m
 refine af_of_res hr hm rfl fun hb => ?_
 have hb1 := hb.1
 simp only [eM, eS, D.bd, D.bdL, lM] at hb1
 have hl := hb1.2.2.2.2.1.1
 have hl2 := hb1.2.2.2.2.1.2.2
 unfold maxEl at hl
 simp +contextual -implicitDefEqProofs only [k_l05Ok, eM, eS, go_sem, eI, eB, ↓reduceIte, Nat.reduceEqDiff, Nat.reduceAdd, Nat.reduceLeDiff, Nat.reduceLT]
 refine callQ_self ?_ (hc1 m.1 m.2.1 m.2.2.1) ?_
 ·exact rfl
 cases hT : testsOk m.1 m.2.1 m.2.2.1
 ·simp +contextual -implicitDefEqProofs only [okMo, hT, bN, Bool.false_and, go_sem, eB, ↓reduceIte, Nat.reduceEqDiff]
 cases h0 : lenIs m.1.2 m.2.2.2
 ·have h0' := h0
  simp only [lenIs] at h0'
  simp +contextual -implicitDefEqProofs only [okMo, actsOk, hT, h0, h0', lM, bne, bT, bN, Bool.false_and, Bool.and_false, go_sem, eB, ↓reduceIte, Nat.reduceEqDiff, Nat.reduceAdd, Nat.reduceLeDiff, Nat.reduceLT]
 have h0' := h0
 simp only [lenIs] at h0'
 simp +contextual -implicitDefEqProofs only [okMo, h0', lM, bne, bT, go_sem, eB, ↓reduceIte, Nat.reduceEqDiff, Nat.reduceAdd, Nat.reduceLeDiff, Nat.reduceLT]
 refine vc_on (α := Nat) [2, 3, 4, 32, 33, 34, 35, 36, 37, 38, 39, 40, 41, 42, 43, 44, 45, 46, 47, 48, 49, 50, 51, 52, 53, 54, 55, 56, 57, 58, 59, 60, 61, 62, 63, 64, 65, 66, 67, 68, 69, 70, 71, 72, 73, 74, 75, 76, 77, 78, 79, 80, 81] (fun i => [(3, .im none (.sc (.int .i64 i)))]) (fun i => i ≤ m.2.2.2.2.length ∧ (m.2.2.2.2.take i).all (tabOk m.2.1 m.2.1) = true) (fun i => m.2.2.2.2.length - i) 0 (by simp only [subEnv, go_sem, ↓reduceIte]; simp) ⟨Nat.zero_le _, rfl⟩ ?_
 rintro i ⟨j1, j2⟩
 by_cases hi : i < m.2.2.2.2.length
 ·have e1 := at_map (f := eS 1 (eS 1 eB)) hi
  simp +contextual -implicitDefEqProofs only [eS, e1, hi, iL, lM, iN, go_sem, ↓reduceIte, Nat.reduceEqDiff, Nat.reduceAdd, Nat.reduceLeDiff, Nat.reduceLT]
  have hli : m.2.2.2.2[i].2.length ≤ 9223372036854775807 := by
   have := bd_ls (bdL_mem hl2 _ (List.mem_map_of_mem (List.getElem_mem hi)))
   simpa only [lM] using this
  cases hy : lenIs m.2.1 m.2.2.2.2[i]
  ·have hy' := hy
   simp only [lenIs] at hy'
   simp +contextual -implicitDefEqProofs only [hy', bne, bN, go_sem]
   have hx : tabOk m.2.1 m.2.1 m.2.2.2.2[i] = false := by simp only [tabOk, hy, Bool.false_and]
   exact D.Le.sc_eq (by simp only [actsOk, hT, h0]; rw [all_fail hi hx]; rfl)
  have hy' := hy
  simp only [lenIs] at hy'
  simp +contextual -implicitDefEqProofs only [hy', bne, bT, go_sem]
  refine vc_on (α := Nat) [2, 4, 54, 55, 56, 57, 58, 59, 60, 61, 62, 63, 64, 65, 66, 67, 68, 69, 70, 71, 72, 73, 74, 75, 76, 77, 78, 79, 80, 81] (fun k => [(4, .im none (.sc (.int .i64 k)))]) (fun k => k ≤ m.2.2.2.2[i].2.length ∧ (m.2.2.2.2[i].2.take k).all (lenIs m.2.1) = true) (fun k => m.2.2.2.2[i].2.length - k) 0 (by simp only [subEnv, go_sem, ↓reduceIte]; simp) ⟨Nat.zero_le _, rfl⟩ ?_
  rintro k ⟨k1, k2⟩
  by_cases hk : k < m.2.2.2.2[i].2.length
  ·have e2 := at_map (f := eS 1 eB) hk
   simp +contextual -implicitDefEqProofs only [eS, e1, hi, e2, hk, iL, lM, iN, go_sem, ↓reduceIte, Nat.reduceEqDiff, Nat.reduceAdd, Nat.reduceLeDiff, Nat.reduceLT]
   cases hz : lenIs m.2.1 m.2.2.2.2[i].2[k]
   ·have hz' := hz
    simp only [lenIs] at hz'
    simp +contextual -implicitDefEqProofs only [hz', bne, bN, go_sem]
    have hx : tabOk m.2.1 m.2.1 m.2.2.2.2[i] = false := by simp only [tabOk, hy]; rw [all_fail hk hz]; rfl
    exact D.Le.sc_eq (by simp only [actsOk, hT, h0]; rw [all_fail hi hx]; rfl)
   ·have hz' := hz
    simp only [lenIs] at hz'
    simp +contextual -implicitDefEqProofs only [hz', bne, bT, go_sem]
    rw [wrap_i64 (by omega) (by omega)]
    exact ⟨k + 1, ⟨by omega, all_take_succ hk k2 hz⟩, by omega, Ent.env (by simp only [subEnv, go_sem, ↓reduceIte, Nat.reduceEqDiff]; simp)⟩
  ·simp +contextual -implicitDefEqProofs only [eS, e1, hi, hk, iL, lM, iN, go_sem, ↓reduceIte, Nat.reduceEqDiff, Nat.reduceAdd, Nat.reduceLeDiff, Nat.reduceLT]
   have hx : tabOk m.2.1 m.2.1 m.2.2.2.2[i] = true := by simp only [tabOk, hy]; rw [all_of_take hk k2]; rfl
   rw [wrap_i64 (by omega) (by omega)]
   exact ⟨i + 1, ⟨by omega, all_take_succ hi j2 hx⟩, by omega, Ent.env (by simp only [subEnv, go_sem, ↓reduceIte, Nat.reduceEqDiff]; simp)⟩
 ·simp +contextual -implicitDefEqProofs only [hi, iL, lM, go_sem, ↓reduceIte, Nat.reduceEqDiff, Nat.reduceAdd, Nat.reduceLeDiff, Nat.reduceLT]
  exact D.Le.sc_eq (by simp only [actsOk, hT, h0]; rw [all_of_take hi j2]; rfl)

def k_validModel (f1 : Nat) : RC := (.seq (.reg false [⟨none, .box 1 5 (.t 0)⟩, ⟨none, .mv 2 (.c (.sc (.bool false)))⟩]) ((.seq (.reg false [⟨none, .fa 3 0 (.t 1)⟩, ⟨none, .ld 4 true 2 (.t 3)⟩, ⟨none, .fa 5 2 (.t 1)⟩, ⟨none, .ld 6 false 1 (.t 5)⟩, ⟨none, .fa 7 3 (.t 1)⟩, ⟨none, .ld 8 false 1 (.t 7)⟩, ⟨none, .fa 9 4 (.t 1)⟩, ⟨none, .ld 10 false 1 (.t 9)⟩, ⟨none, .call (some 11) f1 [(.t 4), (.t 6), (.t 8), (.t 10)]⟩, ⟨none, .mv 2 (.t 11)⟩]) (.ret))))
def K_validModel (P : Program) (f : Nat) : Prop := ∀ (m : Mo), AF P f [eM m] (.own (eB (okMo m)))
theorem a_validModel {P : Program} (hm : P.follows .mixedOrders = true) {g f1 : Nat} (hr : resF P g = some (12, k_validModel f1, [.t 2])) (hc1 : K_isFrameB P f1) : K_validModel P g := by
 intro m
 refine af_of_res hr hm rfl fun hb => ?_
 simp +contextual -implicitDefEqProofs only [k_validModel, eM, eS, go_sem, eI, eB, ↓reduceIte, Nat.reduceEqDiff, Nat.reduceAdd, Nat.reduceLeDiff, Nat.reduceLT]
 refine callQ_self ?_ (hc1 m.1 m.2.1 m.2.2.1 m.2.2.2) ?_
 ·exact rfl
 simp +contextual -implicitDefEqProofs only [okMo, go_sem, eB, ↓reduceIte]
end Go.Ax
namespace Go.Ax
set_option maxRecDepth 20000
set_option maxHeartbeats 4000000

def k_tableB : RC := (.seq (.reg false [⟨none, .mv 4 (.c (.ls (some true) 1 []))⟩]) ((.seq (.reg false [⟨none, .bs 9 1 (.ls (some true) 1 []) 0 []⟩, ⟨none, .mv 5 (.t 9)⟩]) ((.seq ((.seq (.reg false [⟨none, .mv 10 (.t 0)⟩, ⟨none, .mv 11 (.c (.sc (.int .i64 0)))⟩]) (.blk 0 (.loop ((.seq (.reg false [⟨none, .bin 12 .lss (.t 11) (.t 10)⟩]) ((.seq (.cond (.t 12) (.skip) (.exit 0)) ((.seq (.blk 1 ((.seq (.reg false [⟨none, .mv 13 (.t 11)⟩, ⟨none, .mv 6 (.t 13)⟩]) ((.seq (.reg false [⟨none, .bs 14 1 (.sc (.bool false)) 0 []⟩, ⟨none, .mv 7 (.t 14)⟩]) ((.seq ((.seq (.reg false [⟨none, .mv 15 (.t 0)⟩, ⟨none, .mv 16 (.c (.sc (.int .i64 0)))⟩]) (.blk 2 (.loop ((.seq (.reg false [⟨none, .bin 17 .lss (.t 16) (.t 15)⟩]) ((.seq (.cond (.t 17) (.skip) (.exit 2)) ((.seq (.blk 3 ((.seq (.reg false [⟨none, .mv 18 (.t 16)⟩, ⟨none, .mv 8 (.t 18)⟩]) (.reg false [⟨none, .mv 19 (.t 7)⟩, ⟨none, .mv 20 (.t 1)⟩, ⟨none, .mv 21 (.t 6)⟩, ⟨none, .mv 22 (.t 8)⟩, ⟨none, .calv (some 23) (.t 20) [(.t 21), (.t 22)]⟩, ⟨none, .bs 24 1 (.sc (.bool false)) 1 [(0, (.t 23))]⟩, ⟨none, .app 25 1 1 (.t 19) (.t 24)⟩, ⟨none, .mv 7 (.t 25)⟩])))) (.reg false [⟨none, .bin 26 .add (.t 16) (.c (.sc (.int .i64 1)))⟩, ⟨none, .mv 16 (.t 26)⟩]))))))))))) (.reg false [⟨none, .mv 27 (.t 5)⟩, ⟨none, .mv 28 (.t 7)⟩, ⟨none, .bs 29 1 (.ls (some true) 1 []) 1 [(0, (.t 28))]⟩, ⟨none, .app 30 1 24 (.t 27) (.t 29)⟩, ⟨none, .mv 5 (.t 30)⟩])))))))) (.reg false [⟨none, .bin 31 .add (.t 11) (.c (.sc (.int .i64 1)))⟩, ⟨none, .mv 11 (.t 31)⟩]))))))))))) ((.seq (.reg false [⟨none, .mv 32 (.t 5)⟩, ⟨none, .mv 4 (.t 32)⟩]) (.ret))))))))
def K_tableB (P : Program) (fno : Nat) : Prop := ∀ (n f : Nat) (caps : List D) (g : Nat → Nat → Bool) (hn : n ≤ 1000) (hf : ∀ x y : Nat, x < n → y < n → AF P f (eI x :: eI y :: caps) (.own (eB (g x y)))), AF P fno [eI n, .fn f caps] (.own (eS 1 (eS 1 eB) (some false, tabL n fun x => (some false, tabL n (g x)))))
theorem a_tableB {P : Program} (hm : P.follows .mixedOrders = true) {g : Nat} (hr : resF P g = some (33, k_tableB, [.t 4])) : K_tableB P g := by
 intro n f caps g hn hf
 refine af_of_res hr hm rfl fun hb => ?_
 simp +contextual -implicitDefEqProofs only [k_tableB, go_sem, eI, ↓reduceIte, Nat.reduceEqDiff, Nat.reduceAdd, Nat.reduceLT]
 refine vc_onU (α := Nat) [5, 6, 7, 8, 9, 11, 12, 13, 14, 15, 16, 17, 18, 19, 20, 21, 22, 23, 24, 25, 26, 27, 28, 29, 30, 31] (fun i => [(11, .im none (.sc (.int .i64 i))), (5, .sm 9 0 i)]) (fun i => [(9, .ar true (some false) 1 (tabL i fun x => eS 1 eB (some false, tabL n (g x))))]) (fun i => i ≤ n) (fun i => n - i) 0 (Ent.to [] (by simp only [go_sem]; rfl) rfl (by simp) rfl (by simp only [subEnv, go_sem, ↓reduceIte, Nat.reduceEqDiff, keep, memN]; simp)) (Nat.zero_le _) ?_
 intro i hi0
 by_cases hi : i < n
 ·simp +contextual -implicitDefEqProofs only [hi, go_sem, ↓reduceIte, Nat.reduceEqDiff, Nat.reduceBneDiff, Nat.reduceLT, iL]
  refine vc_onU (α := Nat) [7, 8, 14, 16, 17, 18, 19, 20, 21, 22, 23, 24, 25, 26] (fun j => [(16, .im none (.sc (.int .i64 j))), (7, .sm 14 0 j)]) (fun j => [(14, .ar true (some false) 1 (tabL j fun y => eB (g i y))), (9, .ar true (some false) 1 (tabL i fun x => eS 1 eB (some false, tabL n (g x))))]) (fun j => j ≤ n) (fun j => n - j) 0 (Ent.to [] (by simp only [go_sem]; rfl) rfl (by simp) rfl (by simp only [subEnv, go_sem, ↓reduceIte, Nat.reduceEqDiff, keep, memN]; simp)) (Nat.zero_le _) ?_
  intro j hj0
  by_cases hj : j < n
  ·simp +contextual -implicitDefEqProofs only [hj, go_sem, eB, ↓reduceIte, Nat.reduceEqDiff, iL]
   refine callQ_self (ds := eI i :: eI j :: caps) (by simp only [argsOf, AV.arg, argsOf_ims]; rfl) (hf i j hi hj) ?_
   simp +contextual -implicitDefEqProofs only [tabL_len, go_sem, eB, ↓reduceIte, Nat.reduceEqDiff, Nat.reduceLeDiff, Nat.reduceMul, Nat.reduceBEq, Nat.reduceBneDiff, Nat.reduceLT]
   refine ⟨rfl, ⟨by omega, by unfold maxEl; omega, by simp [D.size]⟩, j + 1, by omega, by omega, ?_⟩
   rw [wrap_i64 (by omega) (by omega)]
   exact Ent.env_us (by simp only [tabL_succ]) (by simp only [subEnv, go_sem, ↓reduceIte, Nat.reduceEqDiff]; simp)
  ·obtain rfl : j = n := by omega
   simp +contextual -implicitDefEqProofs only [hj, tabL_len, go_sem, eB, ↓reduceIte, Nat.reduceEqDiff, Nat.reduceLeDiff, Nat.reduceMul, Nat.reduceBEq, Nat.reduceBneDiff, Nat.reduceLT, iL]
   refine ⟨rfl, ⟨by omega, by unfold maxEl; omega, by simp [D.size]⟩, i + 1, by omega, by omega, ?_⟩
   rw [wrap_i64 (by omega) (by omega)]
   exact Ent.env_us (by simp only [tabL_succ, eS, tabL_map, eB]) (by simp only [subEnv, go_sem, ↓reduceIte, Nat.reduceEqDiff]; simp)
 ·obtain rfl : i = n := by omega
  simp +contextual -implicitDefEqProofs only [hi, tabL_len, go_sem, ↓reduceIte, Nat.reduceEqDiff, Nat.reduceBEq, iL]
  exact D.Le.of_eq (by simp only [eS, tabL_map])
end Go.Ax
