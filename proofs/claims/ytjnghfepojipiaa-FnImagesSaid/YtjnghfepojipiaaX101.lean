/- Contracts of functions of the seat, proved over the engine. No condition. -/
import Derived.Test.YtjnghfepojipiaaX100
set_option linter.unusedSimpArgs false
set_option linter.unusedVariables false
set_option linter.unnecessarySimpa false
namespace Go.Ax
set_option linter.unusedSimpArgs false
set_option maxRecDepth 20000
set_option maxHeartbeats 4000000
def K_l02PairX (P : Program) (f : Nat) : Prop := AFP P f
def uR (g : Int × Int) (l : Int) : U := .bx 4 [.sg [.pw 3000000001 0 0, .im none (eI g.1), .im none (eI g.2), .im none (eI l)]]

def Drn (g : Int × Int) (cond : Bool) (s : Int) (d : Nat) (e : Ex) : Prop := treeE g e = true ∧ fitE e ∧ (cond = true → condE e = true) ∧ 1 ≤ sizeE e ∧ (sizeE e : Int) ≤ s ∧ depthE e ≤ d
def leafX (k n : Int) : Ex := .mk k n (some true) []
theorem eE_leafX {k n : Int} : eE (leafX k n) = .ag [.sc (.int .i64 k), .sc (.int .i64 n), .ls (some true) 3 []] := by unfold leafX; rw [eE_mk]; rfl
theorem leafX_size {k n : Int} : sizeE (leafX k n) = 1 := by unfold leafX; rw [sizeE_mk]; simp [sizeEs]
theorem leaf_drn {g : Int × Int} {k n : Int} {cond : Bool} (hk : k = 1 ∨ k = 2 ∨ (k = 3 ∧ 0 < g.1) ∨ (k = 4 ∧ 0 < g.2 ∧ cond = false)) (h1 : k = 1 ∨ k = 2 → n = 0) (h3 : k = 3 → 0 ≤ n ∧ n < g.1) (h4 : k = 4 → 0 ≤ n ∧ n < g.2) (hg : okG g = true) : Drn g cond 1 1 (leafX k n) := by
 have hb : 0 ≤ g.1 ∧ g.1 ≤ 3 ∧ 0 ≤ g.2 ∧ g.2 ≤ 4 := by simp [okG, isIn] at hg; omega
 have w1 := wrap_i64 (x := g.1 - 1) (by omega) (by omega)
 have w2 := wrap_i64 (x := g.2 - 1) (by omega) (by omega)
 refine ⟨?_, by unfold leafX; rw [fitE_mk]; simp, ?_, by rw [leafX_size]; omega, by rw [leafX_size]; simp, by unfold leafX; rw [depthE_mk]; simp [depthEs]⟩
 ·unfold leafX
  rw [treeE_mk]
  rcases hk with rfl | rfl | ⟨rfl, _⟩ | ⟨rfl, _, _⟩
  ·have := h1 (.inl rfl); subst this; simp [formOk, kidsN]
  ·have := h1 (.inr rfl); subst this; simp [formOk, kidsN]
  ·have := h3 rfl; simp [formOk, kidsN, w1, isIn]; omega
  ·have := h4 rfl; simp [formOk, kidsN, w2, isIn]; omega
 ·intro hc
  unfold leafX
  rcases hk with rfl | rfl | ⟨rfl, _⟩ | ⟨rfl, _, h⟩
  ·simp [condE, isCondK, condEs]
  ·simp [condE, isCondK, condEs]
  ·simp [condE, isCondK, condEs]
  ·rw [hc] at h; cases h

def k_genLeaf (f1 f2 : Nat) : RC := (.seq (.reg false [⟨none, .zer 4 3 (.ag [(.sc (.int .i64 0)), (.sc (.int .i64 0)), (.ls (some true) 3 [])])⟩]) ((.seq ((.seq (.reg false [⟨none, .mv 5 (.t 1)⟩, ⟨none, .un 6 .not (.t 5)⟩, ⟨none, .mv 7 (.t 6)⟩, ⟨some (7, true), .mv 8 (.t 0)⟩, ⟨some (7, true), .nck 9 (.t 8)⟩, ⟨some (7, true), .fa 10 1 (.t 9)⟩, ⟨some (7, true), .fa 11 1 (.t 10)⟩, ⟨some (7, true), .ld 12 false 1 (.t 11)⟩, ⟨some (7, true), .bin 13 .gtr (.t 12) (.c (.sc (.int .i64 0)))⟩, ⟨none, .pick 14 (.t 7) (.t 13) (.c (.sc (.bool false)))⟩, ⟨none, .mv 15 (.t 14)⟩, ⟨some (15, true), .mv 16 (.t 0)⟩, ⟨some (15, true), .nck 17 (.t 16)⟩, ⟨some (15, true), .fa 18 0 (.t 17)⟩, ⟨some (15, true), .ld 19 false 1 (.t 18)⟩, ⟨some (15, true), .wcl (some 20) f1 [(.t 19), (.c (.sc (.int .i64 3)))]⟩, ⟨some (15, true), .un 21 .not (.t 20)⟩, ⟨none, .pick 22 (.t 15) (.t 21) (.c (.sc (.bool false)))⟩]) (.cond (.t 22) ((.seq (.reg true [⟨none, .mv 23 (.t 0)⟩, ⟨none, .nck 24 (.t 23)⟩, ⟨none, .fa 25 0 (.t 24)⟩, ⟨none, .ld 26 false 1 (.t 25)⟩, ⟨none, .mv 27 (.t 0)⟩, ⟨none, .nck 28 (.t 27)⟩, ⟨none, .fa 29 1 (.t 28)⟩, ⟨none, .fa 30 1 (.t 29)⟩, ⟨none, .ld 31 false 1 (.t 30)⟩, ⟨none, .wcl (some 32) f2 [(.t 26), (.t 31)]⟩, ⟨none, .bld 33 (.ag [(.sc (.int .i64 0)), (.sc (.int .i64 0)), (.ls (some true) 3 [])]) [(0, 1, (.c (.sc (.int .i64 4)))), (1, 1, (.t 32))]⟩, ⟨none, .st 3 (.t 4) (.t 33)⟩]) (.ret))) (.skip)))) ((.seq ((.seq (.reg false [⟨none, .mv 34 (.t 0)⟩, ⟨none, .nck 35 (.t 34)⟩, ⟨none, .fa 36 1 (.t 35)⟩, ⟨none, .fa 37 0 (.t 36)⟩, ⟨none, .ld 38 false 1 (.t 37)⟩, ⟨none, .bin 39 .gtr (.t 38) (.c (.sc (.int .i64 0)))⟩, ⟨none, .mv 40 (.t 39)⟩, ⟨some (40, true), .mv 41 (.t 0)⟩, ⟨some (40, true), .nck 42 (.t 41)⟩, ⟨some (40, true), .fa 43 0 (.t 42)⟩, ⟨some (40, true), .ld 44 false 1 (.t 43)⟩, ⟨some (40, true), .wcl (some 45) f1 [(.t 44), (.c (.sc (.int .i64 4)))]⟩, ⟨some (40, true), .un 46 .not (.t 45)⟩, ⟨none, .pick 47 (.t 40) (.t 46) (.c (.sc (.bool false)))⟩]) (.cond (.t 47) ((.seq (.reg true [⟨none, .mv 48 (.t 0)⟩, ⟨none, .nck 49 (.t 48)⟩, ⟨none, .fa 50 0 (.t 49)⟩, ⟨none, .ld 51 false 1 (.t 50)⟩, ⟨none, .mv 52 (.t 0)⟩, ⟨none, .nck 53 (.t 52)⟩, ⟨none, .fa 54 1 (.t 53)⟩, ⟨none, .fa 55 0 (.t 54)⟩, ⟨none, .ld 56 false 1 (.t 55)⟩, ⟨none, .wcl (some 57) f2 [(.t 51), (.t 56)]⟩, ⟨none, .bld 58 (.ag [(.sc (.int .i64 0)), (.sc (.int .i64 0)), (.ls (some true) 3 [])]) [(0, 1, (.c (.sc (.int .i64 3)))), (1, 1, (.t 57))]⟩, ⟨none, .st 3 (.t 4) (.t 58)⟩]) (.ret))) (.skip)))) ((.seq (.reg false [⟨none, .mv 59 (.t 0)⟩, ⟨none, .nck 60 (.t 59)⟩, ⟨none, .fa 61 0 (.t 60)⟩, ⟨none, .ld 62 false 1 (.t 61)⟩, ⟨none, .wcl (some 63) f2 [(.t 62), (.c (.sc (.int .i64 2)))]⟩, ⟨none, .bin 64 .add (.c (.sc (.int .i64 1))) (.t 63)⟩, ⟨none, .bld 65 (.ag [(.sc (.int .i64 0)), (.sc (.int .i64 0)), (.ls (some true) 3 [])]) [(0, 1, (.t 64))]⟩, ⟨none, .st 3 (.t 4) (.t 65)⟩]) (.ret))))))))
def K_genLeaf (P : Program) (fno : Nat) : Prop := ∀ (nn : Option Bool) (c : List Int) (a sd : Int) (g : Int × Int) (l : Int) (cond : Bool), srcOk c → okG g = true → 0 ≤ a → a ≤ 300000000 → ∃ a' sd' e, a ≤ a' ∧ a' ≤ a + 6 ∧ Drn g cond 1 1 e ∧ AFW P fno [uR g l, uS nn c a sd] [.pb 3000000000 0, .im none (eB cond)] [uR g l, uS nn c a' sd'] (.own (eE e))
theorem a_genLeaf {P : Program} (hm : P.follows .mixedOrders = true) {g f1 f2 : Nat} (hr : resF P g = some (66, k_genLeaf f1 f2, [.c 4 3 true])) (hc1 : K_srcOne P f1) (hc2 : K_srcPick P f2) : K_genLeaf P g := by
 intro nn c a sd g l cond hc hg h0 hA
 have hb : 0 ≤ g.1 ∧ g.1 ≤ 3 ∧ 0 ≤ g.2 ∧ g.2 ≤ 4 := by simp [okG, isIn] at hg; omega
 cases cond
 ·by_cases hA2 : g.2 > 0
  ·obtain ⟨a1, sd1, b1, p1, p2, hP1⟩ := hc1 nn c a sd 3 hc h0 (by omega)
   cases b1
   ·obtain ⟨a2, sd2, x2, q1, q2, q3, q4, q5, hP2⟩ := hc2 nn c a1 sd1 g.2 hc (by omega) (by omega)
    have hx : x2 < g.2 := (Int.lt_or_le 1 g.2).elim (fun h => q5 h) (fun h => by have := q4 h; omega)
    refine ⟨a2, sd2, leafX 4 x2, by omega, by omega, leaf_drn (.inr (.inr (.inr ⟨rfl, hA2, rfl⟩))) (by omega) (by omega) (fun _ => ⟨q3, hx⟩) hg, ?_⟩
    refine afw_of_res (wv := .no) hr hm rfl rfl rfl fun hb ha => ?_
    simp +contextual -implicitDefEqProofs only [k_genLeaf, uS, uR, srcD, eI, eB, eE_leafX, hA2, D.size, D.sizeL, D.isAg, go_sem, ↓reduceIte, Nat.reduceEqDiff, Nat.reduceAdd, Nat.reduceLeDiff, Nat.reduceBneDiff, Nat.reduceLT]
    refine wcl_self [3000000001] [] (by rfl) (by rfl) (by rfl) hP1 rfl (by simp [wOut, outU, uS, srcD, noPtrs, D.noPtr, shWL, AV.shW, posW, shUs, U.shW, St.unit, lu]) ?_
    simp +contextual -implicitDefEqProofs only [uS, srcD, eB, D.size, D.isAg, go_sem, ↓reduceIte, Nat.reduceEqDiff, Nat.reduceAdd, Nat.reduceLeDiff, Nat.reduceLT]
    refine wcl_self [3000000001] [] (by rfl) (by rfl) (by rfl) hP2 rfl (by simp [wOut, outU, uS, srcD, noPtrs, D.noPtr, shWL, AV.shW, posW, shUs, U.shW, St.unit, lu]) ?_
    simp +contextual -implicitDefEqProofs only [uS, srcD, eI, D.put, D.cells, D.size, D.sizeL, D.isAg, D.sub, modeOf, noPtrs, go_sem, ↓reduceIte, Nat.reduceEqDiff, Nat.reduceAdd, Nat.reduceLeDiff, Nat.reduceBEq, Nat.reduceBneDiff, Nat.reduceLT, Nat.reduceSub]
   ·by_cases hT : g.1 > 0
    ·obtain ⟨a3, sd3, b3, r1, r2, hP3⟩ := hc1 nn c a1 sd1 4 hc (by omega) (by omega)
     cases b3
     ·obtain ⟨a4, sd4, x4, s1, s2, s3, s4, s5, hP4⟩ := hc2 nn c a3 sd3 g.1 hc (by omega) (by omega)
      have hx : x4 < g.1 := (Int.lt_or_le 1 g.1).elim (fun h => s5 h) (fun h => by have := s4 h; omega)
      refine ⟨a4, sd4, leafX 3 x4, by omega, by omega, leaf_drn (.inr (.inr (.inl ⟨rfl, hT⟩))) (by omega) (fun _ => ⟨s3, hx⟩) (by omega) hg, ?_⟩
      refine afw_of_res (wv := .no) hr hm rfl rfl rfl fun hb ha => ?_
      simp +contextual -implicitDefEqProofs only [k_genLeaf, uS, uR, srcD, eI, eB, eE_leafX, hA2, D.size, D.sizeL, D.isAg, go_sem, ↓reduceIte, Nat.reduceEqDiff, Nat.reduceAdd, Nat.reduceLeDiff, Nat.reduceBneDiff, Nat.reduceLT]
      refine wcl_self [3000000001] [] (by rfl) (by rfl) (by rfl) hP1 rfl (by simp [wOut, outU, uS, srcD, noPtrs, D.noPtr, shWL, AV.shW, posW, shUs, U.shW, St.unit, lu]) ?_
      simp +contextual -implicitDefEqProofs only [uS, srcD, eB, hT, D.size, D.isAg, go_sem, ↓reduceIte, Nat.reduceEqDiff, Nat.reduceAdd, Nat.reduceLeDiff, Nat.reduceLT]
      refine wcl_self [3000000001] [] (by rfl) (by rfl) (by rfl) hP3 rfl (by simp [wOut, outU, uS, srcD, noPtrs, D.noPtr, shWL, AV.shW, posW, shUs, U.shW, St.unit, lu]) ?_
      simp +contextual -implicitDefEqProofs only [uS, srcD, eB, D.size, D.isAg, go_sem, ↓reduceIte, Nat.reduceEqDiff, Nat.reduceAdd, Nat.reduceLeDiff, Nat.reduceLT]
      refine wcl_self [3000000001] [] (by rfl) (by rfl) (by rfl) hP4 rfl (by simp [wOut, outU, uS, srcD, noPtrs, D.noPtr, shWL, AV.shW, posW, shUs, U.shW, St.unit, lu]) ?_
      simp +contextual -implicitDefEqProofs only [uS, srcD, eI, D.put, D.cells, D.size, D.sizeL, D.isAg, D.sub, modeOf, noPtrs, go_sem, ↓reduceIte, Nat.reduceEqDiff, Nat.reduceAdd, Nat.reduceLeDiff, Nat.reduceBEq, Nat.reduceBneDiff, Nat.reduceLT, Nat.reduceSub]
     ·obtain ⟨a4, sd4, x4, s1, s2, s3, s4, s5, hP4⟩ := hc2 nn c a3 sd3 2 hc (by omega) (by omega)
      have s5 := s5 (by omega)
      have w := wrap_i64 (x := 1 + x4) (by omega) (by omega)
      refine ⟨a4, sd4, leafX (1 + x4) 0, by omega, by omega, leaf_drn (by omega) (fun _ => rfl) (by omega) (by omega) hg, ?_⟩
      refine afw_of_res (wv := .no) hr hm rfl rfl rfl fun hb ha => ?_
      simp +contextual -implicitDefEqProofs only [k_genLeaf, uS, uR, srcD, eI, eB, eE_leafX, hA2, D.size, D.sizeL, D.isAg, go_sem, ↓reduceIte, Nat.reduceEqDiff, Nat.reduceAdd, Nat.reduceLeDiff, Nat.reduceBneDiff, Nat.reduceLT]
      refine wcl_self [3000000001] [] (by rfl) (by rfl) (by rfl) hP1 rfl (by simp [wOut, outU, uS, srcD, noPtrs, D.noPtr, shWL, AV.shW, posW, shUs, U.shW, St.unit, lu]) ?_
      simp +contextual -implicitDefEqProofs only [uS, srcD, eB, hT, D.size, D.isAg, go_sem, ↓reduceIte, Nat.reduceEqDiff, Nat.reduceAdd, Nat.reduceLeDiff, Nat.reduceLT]
      refine wcl_self [3000000001] [] (by rfl) (by rfl) (by rfl) hP3 rfl (by simp [wOut, outU, uS, srcD, noPtrs, D.noPtr, shWL, AV.shW, posW, shUs, U.shW, St.unit, lu]) ?_
      simp +contextual -implicitDefEqProofs only [uS, srcD, eB, D.size, D.isAg, go_sem, ↓reduceIte, Nat.reduceEqDiff, Nat.reduceAdd, Nat.reduceLeDiff, Nat.reduceLT]
      refine wcl_self [3000000001] [] (by rfl) (by rfl) (by rfl) hP4 rfl (by simp [wOut, outU, uS, srcD, noPtrs, D.noPtr, shWL, AV.shW, posW, shUs, U.shW, St.unit, lu]) ?_
      simp +contextual -implicitDefEqProofs only [uS, srcD, eI, w, D.put, D.cells, D.size, D.sizeL, D.isAg, D.sub, modeOf, noPtrs, go_sem, ↓reduceIte, Nat.reduceEqDiff, Nat.reduceAdd, Nat.reduceLeDiff, Nat.reduceBEq, Nat.reduceBneDiff, Nat.reduceLT, Nat.reduceSub]
    ·obtain ⟨a4, sd4, x4, s1, s2, s3, s4, s5, hP4⟩ := hc2 nn c a1 sd1 2 hc (by omega) (by omega)
     have s5 := s5 (by omega)
     have w := wrap_i64 (x := 1 + x4) (by omega) (by omega)
     refine ⟨a4, sd4, leafX (1 + x4) 0, by omega, by omega, leaf_drn (by omega) (fun _ => rfl) (by omega) (by omega) hg, ?_⟩
     refine afw_of_res (wv := .no) hr hm rfl rfl rfl fun hb ha => ?_
     simp +contextual -implicitDefEqProofs only [k_genLeaf, uS, uR, srcD, eI, eB, eE_leafX, hA2, D.size, D.sizeL, D.isAg, go_sem, ↓reduceIte, Nat.reduceEqDiff, Nat.reduceAdd, Nat.reduceLeDiff, Nat.reduceBneDiff, Nat.reduceLT]
     refine wcl_self [3000000001] [] (by rfl) (by rfl) (by rfl) hP1 rfl (by simp [wOut, outU, uS, srcD, noPtrs, D.noPtr, shWL, AV.shW, posW, shUs, U.shW, St.unit, lu]) ?_
     simp +contextual -implicitDefEqProofs only [uS, srcD, eB, hT, D.size, D.isAg, go_sem, ↓reduceIte, Nat.reduceEqDiff, Nat.reduceAdd, Nat.reduceLeDiff, Nat.reduceLT]
     refine wcl_self [3000000001] [] (by rfl) (by rfl) (by rfl) hP4 rfl (by simp [wOut, outU, uS, srcD, noPtrs, D.noPtr, shWL, AV.shW, posW, shUs, U.shW, St.unit, lu]) ?_
     simp +contextual -implicitDefEqProofs only [uS, srcD, eI, w, D.put, D.cells, D.size, D.sizeL, D.isAg, D.sub, modeOf, noPtrs, go_sem, ↓reduceIte, Nat.reduceEqDiff, Nat.reduceAdd, Nat.reduceLeDiff, Nat.reduceBEq, Nat.reduceBneDiff, Nat.reduceLT, Nat.reduceSub]
  ·by_cases hT : g.1 > 0
   ·obtain ⟨a3, sd3, b3, r1, r2, hP3⟩ := hc1 nn c a sd 4 hc (by omega) (by omega)
    cases b3
    ·obtain ⟨a4, sd4, x4, s1, s2, s3, s4, s5, hP4⟩ := hc2 nn c a3 sd3 g.1 hc (by omega) (by omega)
     have hx : x4 < g.1 := (Int.lt_or_le 1 g.1).elim (fun h => s5 h) (fun h => by have := s4 h; omega)
     refine ⟨a4, sd4, leafX 3 x4, by omega, by omega, leaf_drn (.inr (.inr (.inl ⟨rfl, hT⟩))) (by omega) (fun _ => ⟨s3, hx⟩) (by omega) hg, ?_⟩
     refine afw_of_res (wv := .no) hr hm rfl rfl rfl fun hb ha => ?_
     simp +contextual -implicitDefEqProofs only [k_genLeaf, uS, uR, srcD, eI, eB, eE_leafX, hA2, hT, D.size, D.sizeL, D.isAg, go_sem, ↓reduceIte, Nat.reduceEqDiff, Nat.reduceAdd, Nat.reduceLeDiff, Nat.reduceBneDiff, Nat.reduceLT]
     refine wcl_self [3000000001] [] (by rfl) (by rfl) (by rfl) hP3 rfl (by simp [wOut, outU, uS, srcD, noPtrs, D.noPtr, shWL, AV.shW, posW, shUs, U.shW, St.unit, lu]) ?_
     simp +contextual -implicitDefEqProofs only [uS, srcD, eB, D.size, D.isAg, go_sem, ↓reduceIte, Nat.reduceEqDiff, Nat.reduceAdd, Nat.reduceLeDiff, Nat.reduceLT]
     refine wcl_self [3000000001] [] (by rfl) (by rfl) (by rfl) hP4 rfl (by simp [wOut, outU, uS, srcD, noPtrs, D.noPtr, shWL, AV.shW, posW, shUs, U.shW, St.unit, lu]) ?_
     simp +contextual -implicitDefEqProofs only [uS, srcD, eI, D.put, D.cells, D.size, D.sizeL, D.isAg, D.sub, modeOf, noPtrs, go_sem, ↓reduceIte, Nat.reduceEqDiff, Nat.reduceAdd, Nat.reduceLeDiff, Nat.reduceBEq, Nat.reduceBneDiff, Nat.reduceLT, Nat.reduceSub]
    ·obtain ⟨a4, sd4, x4, s1, s2, s3, s4, s5, hP4⟩ := hc2 nn c a3 sd3 2 hc (by omega) (by omega)
     have s5 := s5 (by omega)
     have w := wrap_i64 (x := 1 + x4) (by omega) (by omega)
     refine ⟨a4, sd4, leafX (1 + x4) 0, by omega, by omega, leaf_drn (by omega) (fun _ => rfl) (by omega) (by omega) hg, ?_⟩
     refine afw_of_res (wv := .no) hr hm rfl rfl rfl fun hb ha => ?_
     simp +contextual -implicitDefEqProofs only [k_genLeaf, uS, uR, srcD, eI, eB, eE_leafX, hA2, hT, D.size, D.sizeL, D.isAg, go_sem, ↓reduceIte, Nat.reduceEqDiff, Nat.reduceAdd, Nat.reduceLeDiff, Nat.reduceBneDiff, Nat.reduceLT]
     refine wcl_self [3000000001] [] (by rfl) (by rfl) (by rfl) hP3 rfl (by simp [wOut, outU, uS, srcD, noPtrs, D.noPtr, shWL, AV.shW, posW, shUs, U.shW, St.unit, lu]) ?_
     simp +contextual -implicitDefEqProofs only [uS, srcD, eB, D.size, D.isAg, go_sem, ↓reduceIte, Nat.reduceEqDiff, Nat.reduceAdd, Nat.reduceLeDiff, Nat.reduceLT]
     refine wcl_self [3000000001] [] (by rfl) (by rfl) (by rfl) hP4 rfl (by simp [wOut, outU, uS, srcD, noPtrs, D.noPtr, shWL, AV.shW, posW, shUs, U.shW, St.unit, lu]) ?_
     simp +contextual -implicitDefEqProofs only [uS, srcD, eI, w, D.put, D.cells, D.size, D.sizeL, D.isAg, D.sub, modeOf, noPtrs, go_sem, ↓reduceIte, Nat.reduceEqDiff, Nat.reduceAdd, Nat.reduceLeDiff, Nat.reduceBEq, Nat.reduceBneDiff, Nat.reduceLT, Nat.reduceSub]
   ·obtain ⟨a4, sd4, x4, s1, s2, s3, s4, s5, hP4⟩ := hc2 nn c a sd 2 hc (by omega) (by omega)
    have s5 := s5 (by omega)
    have w := wrap_i64 (x := 1 + x4) (by omega) (by omega)
    refine ⟨a4, sd4, leafX (1 + x4) 0, by omega, by omega, leaf_drn (by omega) (fun _ => rfl) (by omega) (by omega) hg, ?_⟩
    refine afw_of_res (wv := .no) hr hm rfl rfl rfl fun hb ha => ?_
    simp +contextual -implicitDefEqProofs only [k_genLeaf, uS, uR, srcD, eI, eB, eE_leafX, hA2, hT, D.size, D.sizeL, D.isAg, go_sem, ↓reduceIte, Nat.reduceEqDiff, Nat.reduceAdd, Nat.reduceLeDiff, Nat.reduceBneDiff, Nat.reduceLT]
    refine wcl_self [3000000001] [] (by rfl) (by rfl) (by rfl) hP4 rfl (by simp [wOut, outU, uS, srcD, noPtrs, D.noPtr, shWL, AV.shW, posW, shUs, U.shW, St.unit, lu]) ?_
    simp +contextual -implicitDefEqProofs only [uS, srcD, eI, w, D.put, D.cells, D.size, D.sizeL, D.isAg, D.sub, modeOf, noPtrs, go_sem, ↓reduceIte, Nat.reduceEqDiff, Nat.reduceAdd, Nat.reduceLeDiff, Nat.reduceBEq, Nat.reduceBneDiff, Nat.reduceLT, Nat.reduceSub]
 ·by_cases hT : g.1 > 0
  ·obtain ⟨a3, sd3, b3, r1, r2, hP3⟩ := hc1 nn c a sd 4 hc (by omega) (by omega)
   cases b3
   ·obtain ⟨a4, sd4, x4, s1, s2, s3, s4, s5, hP4⟩ := hc2 nn c a3 sd3 g.1 hc (by omega) (by omega)
    have hx : x4 < g.1 := (Int.lt_or_le 1 g.1).elim (fun h => s5 h) (fun h => by have := s4 h; omega)
    refine ⟨a4, sd4, leafX 3 x4, by omega, by omega, leaf_drn (.inr (.inr (.inl ⟨rfl, hT⟩))) (by omega) (fun _ => ⟨s3, hx⟩) (by omega) hg, ?_⟩
    refine afw_of_res (wv := .no) hr hm rfl rfl rfl fun hb ha => ?_
    simp +contextual -implicitDefEqProofs only [k_genLeaf, uS, uR, srcD, eI, eB, eE_leafX, hT, D.size, D.sizeL, D.isAg, go_sem, ↓reduceIte, Nat.reduceEqDiff, Nat.reduceAdd, Nat.reduceLeDiff, Nat.reduceBneDiff, Nat.reduceLT]
    refine wcl_self [3000000001] [] (by rfl) (by rfl) (by rfl) hP3 rfl (by simp [wOut, outU, uS, srcD, noPtrs, D.noPtr, shWL, AV.shW, posW, shUs, U.shW, St.unit, lu]) ?_
    simp +contextual -implicitDefEqProofs only [uS, srcD, eB, D.size, D.isAg, go_sem, ↓reduceIte, Nat.reduceEqDiff, Nat.reduceAdd, Nat.reduceLeDiff, Nat.reduceLT]
    refine wcl_self [3000000001] [] (by rfl) (by rfl) (by rfl) hP4 rfl (by simp [wOut, outU, uS, srcD, noPtrs, D.noPtr, shWL, AV.shW, posW, shUs, U.shW, St.unit, lu]) ?_
    simp +contextual -implicitDefEqProofs only [uS, srcD, eI, D.put, D.cells, D.size, D.sizeL, D.isAg, D.sub, modeOf, noPtrs, go_sem, ↓reduceIte, Nat.reduceEqDiff, Nat.reduceAdd, Nat.reduceLeDiff, Nat.reduceBEq, Nat.reduceBneDiff, Nat.reduceLT, Nat.reduceSub]
   ·obtain ⟨a4, sd4, x4, s1, s2, s3, s4, s5, hP4⟩ := hc2 nn c a3 sd3 2 hc (by omega) (by omega)
    have s5 := s5 (by omega)
    have w := wrap_i64 (x := 1 + x4) (by omega) (by omega)
    refine ⟨a4, sd4, leafX (1 + x4) 0, by omega, by omega, leaf_drn (by omega) (fun _ => rfl) (by omega) (by omega) hg, ?_⟩
    refine afw_of_res (wv := .no) hr hm rfl rfl rfl fun hb ha => ?_
    simp +contextual -implicitDefEqProofs only [k_genLeaf, uS, uR, srcD, eI, eB, eE_leafX, hT, D.size, D.sizeL, D.isAg, go_sem, ↓reduceIte, Nat.reduceEqDiff, Nat.reduceAdd, Nat.reduceLeDiff, Nat.reduceBneDiff, Nat.reduceLT]
    refine wcl_self [3000000001] [] (by rfl) (by rfl) (by rfl) hP3 rfl (by simp [wOut, outU, uS, srcD, noPtrs, D.noPtr, shWL, AV.shW, posW, shUs, U.shW, St.unit, lu]) ?_
    simp +contextual -implicitDefEqProofs only [uS, srcD, eB, D.size, D.isAg, go_sem, ↓reduceIte, Nat.reduceEqDiff, Nat.reduceAdd, Nat.reduceLeDiff, Nat.reduceLT]
    refine wcl_self [3000000001] [] (by rfl) (by rfl) (by rfl) hP4 rfl (by simp [wOut, outU, uS, srcD, noPtrs, D.noPtr, shWL, AV.shW, posW, shUs, U.shW, St.unit, lu]) ?_
    simp +contextual -implicitDefEqProofs only [uS, srcD, eI, w, D.put, D.cells, D.size, D.sizeL, D.isAg, D.sub, modeOf, noPtrs, go_sem, ↓reduceIte, Nat.reduceEqDiff, Nat.reduceAdd, Nat.reduceLeDiff, Nat.reduceBEq, Nat.reduceBneDiff, Nat.reduceLT, Nat.reduceSub]
  ·obtain ⟨a4, sd4, x4, s1, s2, s3, s4, s5, hP4⟩ := hc2 nn c a sd 2 hc (by omega) (by omega)
   have s5 := s5 (by omega)
   have w := wrap_i64 (x := 1 + x4) (by omega) (by omega)
   refine ⟨a4, sd4, leafX (1 + x4) 0, by omega, by omega, leaf_drn (by omega) (fun _ => rfl) (by omega) (by omega) hg, ?_⟩
   refine afw_of_res (wv := .no) hr hm rfl rfl rfl fun hb ha => ?_
   simp +contextual -implicitDefEqProofs only [k_genLeaf, uS, uR, srcD, eI, eB, eE_leafX, hT, D.size, D.sizeL, D.isAg, go_sem, ↓reduceIte, Nat.reduceEqDiff, Nat.reduceAdd, Nat.reduceLeDiff, Nat.reduceBneDiff, Nat.reduceLT]
   refine wcl_self [3000000001] [] (by rfl) (by rfl) (by rfl) hP4 rfl (by simp [wOut, outU, uS, srcD, noPtrs, D.noPtr, shWL, AV.shW, posW, shUs, U.shW, St.unit, lu]) ?_
   simp +contextual -implicitDefEqProofs only [uS, srcD, eI, w, D.put, D.cells, D.size, D.sizeL, D.isAg, D.sub, modeOf, noPtrs, go_sem, ↓reduceIte, Nat.reduceEqDiff, Nat.reduceAdd, Nat.reduceLeDiff, Nat.reduceBEq, Nat.reduceBneDiff, Nat.reduceLT, Nat.reduceSub]
theorem eE_flatX (e : Ex) : (eE e).flat = false := by cases e; rw [eE_mk]; rfl
theorem Drn.mono {g : Int × Int} {c : Bool} {s s' : Int} {d d' : Nat} {e : Ex} (h : Drn g c s d e) (hs : s ≤ s') (hd : d ≤ d') : Drn g c s' d' e :=
 ⟨h.1, h.2.1, h.2.2.1, h.2.2.2.1, by have := h.2.2.2.2.1; omega, by have := h.2.2.2.2.2; omega⟩
theorem size1 {k n : Int} {nn : Option Bool} {e : Ex} : sizeE (.mk k n nn [e]) = 1 + sizeE e := by rw [sizeE_mk]; simp [sizeEs]
theorem size2 {k n : Int} {nn : Option Bool} {e f : Ex} : sizeE (.mk k n nn [e, f]) = 1 + (sizeE e + sizeE f) := by rw [sizeE_mk]; simp [sizeEs]
theorem not_drn {g : Int × Int} {cond : Bool} {s : Int} {d : Nat} {e : Ex} (h : Drn g true s d e) : Drn g cond (s + 1) (d + 1) (.mk 5 0 (some false) [e]) := by
 obtain ⟨h1, h2, h3, h4, h5, h6⟩ := h
 have h3 := h3 rfl
 refine ⟨?_, by rw [fitE_mk]; simp [h2], fun _ => ?_, by rw [size1]; omega, by rw [size1]; omega, ?_⟩
 ·rw [treeE_mk]; simp [formOk, kidsN, headC, h3, h1]
 ·simp [condE, isCondK, condEs, h3]
 ·rw [depthE_mk]; simp [depthEs]; omega
theorem star_drn {g : Int × Int} {b : Bool} {s : Int} {d : Nat} {e : Ex} (h : Drn g b s d e) : Drn g false (s + 1) (d + 1) (.mk 8 0 (some false) [e]) := by
 obtain ⟨h1, h2, h3, h4, h5, h6⟩ := h
 refine ⟨?_, by rw [fitE_mk]; simp [h2], (fun h => by cases h), by rw [size1]; omega, by rw [size1]; omega, ?_⟩
 ·rw [treeE_mk]; simp [formOk, kidsN, h1]
 ·rw [depthE_mk]; simp [depthEs]; omega
theorem pair_drn {g : Int × Int} {cond b1 b2 : Bool} {s1 s2 k : Int} {d : Nat} {e f : Ex} (hk : k = 6 ∨ k = 7) (h : Drn g b1 s1 d e) (h' : Drn g b2 s2 d f) (q1 : cond = true → b1 = true) (q2 : cond = true → b2 = true) : Drn g cond (1 + sizeE e + sizeE f) (d + 1) (.mk k 0 (some false) [e, f]) := by
 obtain ⟨h1, h2, h3, h4, h5, h6⟩ := h
 obtain ⟨g1, g2, g3, g4, g5, g6⟩ := h'
 refine ⟨?_, by rw [fitE_mk]; simp [h2, g2], fun hc => ?_, by rw [size2]; omega, by rw [size2]; omega, ?_⟩
 ·rw [treeE_mk]; rcases hk with rfl | rfl <;> simp [formOk, kidsN, h1, g1]
 ·have e1 := h3 (q1 hc)
  have e2 := g3 (q2 hc)
  rcases hk with rfl | rfl <;> simp [condE, isCondK, condEs, e1, e2]
 ·rw [depthE_mk]; simp [depthEs]; omega

def k_genExpr (g f1 f2 f3 f4 : Nat) : RC := (.seq (.reg false [⟨none, .zer 6 3 (.ag [(.sc (.int .i64 0)), (.sc (.int .i64 0)), (.ls (some true) 3 [])])⟩]) ((.seq (.reg false [⟨none, .mv 11 (.t 0)⟩, ⟨none, .nck 12 (.t 11)⟩, ⟨none, .fa 13 3 (.t 12)⟩, ⟨none, .ld 14 false 1 (.t 13)⟩, ⟨none, .bin 15 .sub (.t 14) (.c (.sc (.int .i64 1)))⟩, ⟨none, .nck 16 (.t 11)⟩, ⟨none, .fa 17 3 (.t 16)⟩, ⟨none, .st 1 (.t 17) (.t 15)⟩]) ((.seq ((.seq (.reg false [⟨none, .mv 18 (.t 0)⟩, ⟨none, .nck 19 (.t 18)⟩, ⟨none, .fa 20 3 (.t 19)⟩, ⟨none, .ld 21 false 1 (.t 20)⟩, ⟨none, .bin 22 .lss (.t 21) (.c (.sc (.int .i64 1)))⟩, ⟨none, .mv 23 (.t 22)⟩, ⟨some (23, false), .mv 24 (.t 2)⟩, ⟨some (23, false), .bin 25 .lss (.t 24) (.c (.sc (.int .i64 1)))⟩, ⟨none, .pick 26 (.t 23) (.c (.sc (.bool true))) (.t 25)⟩, ⟨none, .mv 27 (.t 26)⟩, ⟨some (27, false), .mv 28 (.t 0)⟩, ⟨some (27, false), .nck 29 (.t 28)⟩, ⟨some (27, false), .fa 30 0 (.t 29)⟩, ⟨some (27, false), .ld 31 false 1 (.t 30)⟩, ⟨some (27, false), .wcl (some 32) f1 [(.t 31), (.c (.sc (.int .i64 6)))]⟩, ⟨none, .pick 33 (.t 27) (.c (.sc (.bool true))) (.t 32)⟩]) (.cond (.t 33) ((.seq (.reg false [⟨none, .mv 34 (.t 0)⟩, ⟨none, .mv 35 (.t 1)⟩, ⟨none, .wcl (some 36) f2 [(.t 34), (.t 35)]⟩, ⟨none, .st 3 (.t 6) (.t 36)⟩]) (.ret))) (.skip)))) ((.seq (.reg false [⟨none, .mv 37 (.t 0)⟩, ⟨none, .nck 38 (.t 37)⟩, ⟨none, .fa 39 0 (.t 38)⟩, ⟨none, .ld 40 false 1 (.t 39)⟩, ⟨none, .wcl (some 41) f3 [(.t 40), (.c (.sc (.int .i64 10)))]⟩, ⟨none, .mv 7 (.t 41)⟩]) ((.seq (.blk 0 ((.seq (.reg false [⟨none, .mv 43 (.t 7)⟩, ⟨none, .bin 44 .eql (.t 43) (.c (.sc (.int .i64 0)))⟩, ⟨none, .mv 45 (.t 44)⟩, ⟨some (45, false), .mv 46 (.t 1)⟩, ⟨some (45, false), .mv 47 (.t 46)⟩, ⟨some (47, true), .mv 48 (.t 7)⟩, ⟨some (47, true), .bin 49 .lss (.t 48) (.c (.sc (.int .i64 4)))⟩, ⟨some (45, false), .pick 50 (.t 47) (.t 49) (.c (.sc (.bool false)))⟩, ⟨none, .pick 51 (.t 45) (.c (.sc (.bool true))) (.t 50)⟩, ⟨none, .mv 42 (.t 51)⟩]) (.cond (.t 42) ((.seq (.reg false [⟨none, .mv 52 (.t 0)⟩, ⟨none, .mv 53 (.t 2)⟩, ⟨none, .bin 54 .sub (.t 53) (.c (.sc (.int .i64 1)))⟩, ⟨none, .wcl (some 55) g [(.t 52), (.c (.sc (.bool true))), (.t 54)]⟩, ⟨none, .bs 56 3 (.ag [(.sc (.int .i64 0)), (.sc (.int .i64 0)), (.ls (some true) 3 [])]) 1 [(0, (.t 55))]⟩, ⟨none, .bld 57 (.ag [(.sc (.int .i64 0)), (.sc (.int .i64 0)), (.ls (some true) 3 [])]) [(0, 1, (.c (.sc (.int .i64 5)))), (2, 1, (.t 56))]⟩, ⟨none, .st 3 (.t 6) (.t 57)⟩]) (.ret))) ((.seq (.reg false [⟨none, .mv 59 (.t 7)⟩, ⟨none, .bin 60 .lss (.t 59) (.c (.sc (.int .i64 4)))⟩, ⟨none, .mv 58 (.t 60)⟩]) (.cond (.t 58) ((.seq (.reg false [⟨none, .mv 61 (.t 0)⟩, ⟨none, .mv 62 (.t 2)⟩, ⟨none, .bin 63 .sub (.t 62) (.c (.sc (.int .i64 1)))⟩, ⟨none, .wcl (some 64) g [(.t 61), (.c (.sc (.bool false))), (.t 63)]⟩, ⟨none, .bs 65 3 (.ag [(.sc (.int .i64 0)), (.sc (.int .i64 0)), (.ls (some true) 3 [])]) 1 [(0, (.t 64))]⟩, ⟨none, .bld 66 (.ag [(.sc (.int .i64 0)), (.sc (.int .i64 0)), (.ls (some true) 3 [])]) [(0, 1, (.c (.sc (.int .i64 8)))), (2, 1, (.t 65))]⟩, ⟨none, .st 3 (.t 6) (.t 66)⟩]) (.ret))) (.skip)))))))) ((.seq (.reg false [⟨none, .mv 8 (.c (.sc (.int .i64 7)))⟩]) ((.seq ((.seq (.reg false [⟨none, .mv 67 (.t 7)⟩, ⟨none, .bin 68 .lss (.t 67) (.c (.sc (.int .i64 6)))⟩]) (.cond (.t 68) (.reg false [⟨none, .mv 8 (.c (.sc (.int .i64 6)))⟩]) (.skip)))) ((.seq (.reg false [⟨none, .mv 69 (.t 0)⟩, ⟨none, .mv 70 (.t 1)⟩, ⟨none, .mv 71 (.t 70)⟩, ⟨some (71, false), .mv 72 (.t 0)⟩, ⟨some (71, false), .nck 73 (.t 72)⟩, ⟨some (71, false), .fa 74 0 (.t 73)⟩, ⟨some (71, false), .ld 75 false 1 (.t 74)⟩, ⟨some (71, false), .wcl (some 76) f1 [(.t 75), (.c (.sc (.int .i64 5)))]⟩, ⟨none, .pick 77 (.t 71) (.c (.sc (.bool true))) (.t 76)⟩, ⟨none, .mv 78 (.t 2)⟩, ⟨none, .bin 79 .sub (.t 78) (.c (.sc (.int .i64 1)))⟩, ⟨none, .wcl (some 80) g [(.t 69), (.t 77), (.t 79)]⟩, ⟨none, .zer 9 3 (.ag [(.sc (.int .i64 0)), (.sc (.int .i64 0)), (.ls (some true) 3 [])])⟩, ⟨none, .st 3 (.t 9) (.t 80)⟩]) ((.seq (.reg false [⟨none, .mv 81 (.t 0)⟩, ⟨none, .mv 82 (.t 1)⟩, ⟨none, .mv 83 (.t 82)⟩, ⟨some (83, false), .mv 84 (.t 0)⟩, ⟨some (83, false), .nck 85 (.t 84)⟩, ⟨some (83, false), .fa 86 0 (.t 85)⟩, ⟨some (83, false), .ld 87 false 1 (.t 86)⟩, ⟨some (83, false), .wcl (some 88) f1 [(.t 87), (.c (.sc (.int .i64 6)))]⟩, ⟨none, .pick 89 (.t 83) (.c (.sc (.bool true))) (.t 88)⟩, ⟨none, .mv 90 (.t 2)⟩, ⟨none, .bin 91 .sub (.t 90) (.c (.sc (.int .i64 1)))⟩, ⟨none, .wcl (some 92) g [(.t 81), (.t 89), (.t 91)]⟩, ⟨none, .zer 10 3 (.ag [(.sc (.int .i64 0)), (.sc (.int .i64 0)), (.ls (some true) 3 [])])⟩, ⟨none, .st 3 (.t 10) (.t 92)⟩]) ((.seq (.reg false [⟨none, .mv 93 (.t 8)⟩, ⟨none, .ld 94 true 3 (.t 9)⟩, ⟨none, .ld 95 true 3 (.t 10)⟩, ⟨none, .call (some 96) f4 [(.t 93), (.t 94), (.t 95)]⟩, ⟨none, .st 3 (.t 6) (.t 96)⟩]) (.ret))))))))))))))))))))
def K_genExpr (P : Program) (fno : Nat) : Prop := ∀ (nn : Option Bool) (c : List Int) (g : Int × Int), srcOk c → okG g = true → ∀ (d : Nat), ∀ (dd a sd l : Int) (cond : Bool), dd = (d : Int) → 0 ≤ a → a ≤ 200000000 - 100000 * dd → -2000 ≤ l → l ≤ 1000 → ∃ a' sd' e, a ≤ a' ∧ a' ≤ a + 14 * sizeE e ∧ Drn g cond 2000 (d + 1) e ∧ (l ≤ 1 → sizeE e ≤ 1) ∧ (1 < l → (sizeE e : Int) ≤ 2 * l - 1) ∧ AFW P fno [uR g l, uS nn c a sd] [.pb 3000000000 0, .im none (eB cond), .im none (eI dd)] [uR g (l - sizeE e), uS nn c a' sd'] (.own (eE e))
theorem a_genExpr {P : Program} (hm : P.follows .mixedOrders = true) {g f1 f2 f3 f4 : Nat} (hr : resF P g = some (97, k_genExpr g f1 f2 f3 f4, [.c 6 3 true])) (hc1 : K_srcOne P f1) (hc2 : K_genLeaf P f2) (hc3 : K_srcPick P f3) (hc4 : K_l02PairX P f4) : K_genExpr P g := by
 intro nn c g hc hg d
 induction d with
 | zero =>
  intro dd a sd l cond hdd h0 hA hl0 hl1
  have w0 := wrap_i64 (x := l - 1) (by omega) (by omega)
  have hd : dd < 1 := by omega
  by_cases hl : l - 1 < 1
  ·obtain ⟨a9, sd9, e9, t1, t2, t3, hL⟩ := hc2 nn c a sd g (l - 1) cond hc hg (by omega) (by omega)
   have hs9 : (sizeE e9 : Int) = 1 := by have h1 := t3.2.2.2.1; have h2 := t3.2.2.2.2.1; omega
   refine ⟨a9, sd9, e9, by omega, by omega, t3.mono (by omega) (by omega), fun _ => by omega, fun _ => by omega, ?_⟩
   rw [hs9]
   refine afw_of_res (wv := .no) hr hm rfl rfl rfl fun hb ha => ?_
   simp +contextual -implicitDefEqProofs only [k_genExpr, uS, uR, srcD, eI, eB, w0, hl, D.size, D.sizeL, go_sem, ↓reduceIte, Nat.reduceEqDiff, Nat.reduceAdd, Nat.reduceLeDiff, Nat.reduceBEq, Nat.reduceBneDiff, Nat.reduceLT]
   refine wcl_self [3000000000, 3000000001] [] (by rfl) (by rfl) (by rfl) hL rfl (by simp [wOut, outU, uS, uR, srcD, okWL, AV.okW, noPtrs, D.noPtr, shWL, AV.shW, posW, shUs, U.shW, St.unit, lu, eI, D.flat]) ?_
   simp +contextual -implicitDefEqProofs only [uS, uR, srcD, eI, eE_size, eE_isAg, encE.sub, eE_flatX, D.put, modeOf, noPtrs, go_sem, ↓reduceIte, Nat.reduceEqDiff, Nat.reduceAdd, Nat.reduceLeDiff, Nat.reduceBEq, Nat.reduceBneDiff, Nat.reduceLT, Nat.reduceSub]
  ·obtain ⟨a9, sd9, e9, t1, t2, t3, hL⟩ := hc2 nn c a sd g (l - 1) cond hc hg (by omega) (by omega)
   have hs9 : (sizeE e9 : Int) = 1 := by have h1 := t3.2.2.2.1; have h2 := t3.2.2.2.2.1; omega
   refine ⟨a9, sd9, e9, by omega, by omega, t3.mono (by omega) (by omega), fun _ => by omega, fun _ => by omega, ?_⟩
   rw [hs9]
   refine afw_of_res (wv := .no) hr hm rfl rfl rfl fun hb ha => ?_
   simp +contextual -implicitDefEqProofs only [k_genExpr, uS, uR, srcD, eI, eB, w0, hl, hd, D.size, D.sizeL, go_sem, ↓reduceIte, Nat.reduceEqDiff, Nat.reduceAdd, Nat.reduceLeDiff, Nat.reduceBEq, Nat.reduceBneDiff, Nat.reduceLT]
   refine wcl_self [3000000000, 3000000001] [] (by rfl) (by rfl) (by rfl) hL rfl (by simp [wOut, outU, uS, uR, srcD, okWL, AV.okW, noPtrs, D.noPtr, shWL, AV.shW, posW, shUs, U.shW, St.unit, lu, eI, D.flat]) ?_
   simp +contextual -implicitDefEqProofs only [uS, uR, srcD, eI, eE_size, eE_isAg, encE.sub, eE_flatX, D.put, modeOf, noPtrs, go_sem, ↓reduceIte, Nat.reduceEqDiff, Nat.reduceAdd, Nat.reduceLeDiff, Nat.reduceBEq, Nat.reduceBneDiff, Nat.reduceLT, Nat.reduceSub]
 | succ n ih =>
  intro dd a sd l cond hdd h0 hA hl0 hl1
  have w0 := wrap_i64 (x := l - 1) (by omega) (by omega)
  have wn := wrap_i64 (x := dd - 1) (by omega) (by omega)
  have hd : ¬ dd < 1 := by omega
  by_cases hl : l - 1 < 1
  ·obtain ⟨a9, sd9, e9, t1, t2, t3, hL⟩ := hc2 nn c a sd g (l - 1) cond hc hg (by omega) (by omega)
   have hs9 : (sizeE e9 : Int) = 1 := by have h1 := t3.2.2.2.1; have h2 := t3.2.2.2.2.1; omega
   refine ⟨a9, sd9, e9, by omega, by omega, t3.mono (by omega) (by omega), fun _ => by omega, fun _ => by omega, ?_⟩
   rw [hs9]
   refine afw_of_res (wv := .no) hr hm rfl rfl rfl fun hb ha => ?_
   simp +contextual -implicitDefEqProofs only [k_genExpr, uS, uR, srcD, eI, eB, w0, hl, D.size, D.sizeL, go_sem, ↓reduceIte, Nat.reduceEqDiff, Nat.reduceAdd, Nat.reduceLeDiff, Nat.reduceBEq, Nat.reduceBneDiff, Nat.reduceLT]
   refine wcl_self [3000000000, 3000000001] [] (by rfl) (by rfl) (by rfl) hL rfl (by simp [wOut, outU, uS, uR, srcD, okWL, AV.okW, noPtrs, D.noPtr, shWL, AV.shW, posW, shUs, U.shW, St.unit, lu, eI, D.flat]) ?_
   simp +contextual -implicitDefEqProofs only [uS, uR, srcD, eI, eE_size, eE_isAg, encE.sub, eE_flatX, D.put, modeOf, noPtrs, go_sem, ↓reduceIte, Nat.reduceEqDiff, Nat.reduceAdd, Nat.reduceLeDiff, Nat.reduceBEq, Nat.reduceBneDiff, Nat.reduceLT, Nat.reduceSub]
  obtain ⟨a1, sd1, b1, p1, p2, hP1⟩ := hc1 nn c a sd 6 hc (by omega) (by omega)
  cases b1
  ·obtain ⟨a2, sd2, x2, q1, q2, q3, q4, q5, hP2⟩ := hc3 nn c a1 sd1 10 hc (by omega) (by omega)
   by_cases hk0 : x2 = 0
   ·have hk0b : (x2 == 0) = true := by simp [hk0]
    obtain ⟨a3, sd3, e3, s1, s2, s3, s4, s5, hE⟩ := ih (dd - 1) a2 sd2 (l - 1) true (by omega) (by omega) (by omega) (by omega) (by omega)
    have hz := @size1 5 0 (some false) e3
    have hs : l - (sizeE (.mk 5 0 (some false) [e3]) : Int) = l - 1 - (sizeE e3 : Int) := by omega
    have hs1 := s3.2.2.2.1
    have s5 : (sizeE e3 : Int) ≤ 2 * l - 3 ∨ sizeE e3 ≤ 1 := by omega
    have s3' : Drn g true (sizeE e3) (n + 1) e3 := ⟨s3.1, s3.2.1, s3.2.2.1, s3.2.2.2.1, Int.le_refl _, s3.2.2.2.2.2⟩
    refine ⟨a3, sd3, .mk 5 0 (some false) [e3], by omega, by omega, (not_drn s3').mono (by omega) (Nat.le_refl _), fun _ => by omega, fun _ => by omega, ?_⟩
    rw [hs, eE_mk]
    refine afw_of_res (wv := .no) hr hm rfl rfl rfl fun hb ha => ?_
    simp +contextual -implicitDefEqProofs only [k_genExpr, uS, uR, srcD, eI, eB, w0, hl, hd, D.size, D.sizeL, go_sem, ↓reduceIte, Nat.reduceEqDiff, Nat.reduceAdd, Nat.reduceLeDiff, Nat.reduceBEq, Nat.reduceBneDiff, Nat.reduceLT]
    refine wcl_self [3000000001] [] (by rfl) (by rfl) (by rfl) hP1 rfl (by simp [wOut, outU, uS, srcD, noPtrs, D.noPtr, shWL, AV.shW, posW, shUs, U.shW, St.unit, lu]) ?_
    simp +contextual -implicitDefEqProofs only [uS, srcD, eB, D.size, go_sem, ↓reduceIte, Nat.reduceEqDiff, Nat.reduceAdd, Nat.reduceLeDiff, Nat.reduceLT]
    refine wcl_self [3000000001] [] (by rfl) (by rfl) (by rfl) hP2 rfl (by simp [wOut, outU, uS, srcD, noPtrs, D.noPtr, shWL, AV.shW, posW, shUs, U.shW, St.unit, lu]) ?_
    simp +contextual -implicitDefEqProofs only [uS, srcD, eI, wn, hk0b, go_sem, ↓reduceIte, Nat.reduceEqDiff]
    refine wcl_self [3000000000, 3000000001] [] (by rfl) (by rfl) (by rfl) hE rfl (by simp [wOut, outU, uS, uR, srcD, okWL, AV.okW, noPtrs, D.noPtr, shWL, AV.shW, posW, shUs, U.shW, St.unit, lu, eI, D.flat]) ?_
    simp +contextual -implicitDefEqProofs only [uS, uR, srcD, eI, eE_size, eE_flatX, List.map_cons, List.map_nil, D.put, D.cells, D.size, D.sizeL, modeOf, noPtrs, go_sem, ↓reduceIte, Nat.reduceEqDiff, Nat.reduceAdd, Nat.reduceLeDiff, Nat.reduceMul, Nat.reduceBEq, Nat.reduceBneDiff, Nat.reduceLT, Nat.reduceSub]
    exact ⟨by decide, by simp [eE_size]⟩
   have hk0b : (x2 == 0) = false := by simp [hk0]
   cases cond
   ·by_cases hk4 : x2 < 4
    ·obtain ⟨a3, sd3, e3, s1, s2, s3, s4, s5, hE⟩ := ih (dd - 1) a2 sd2 (l - 1) false (by omega) (by omega) (by omega) (by omega) (by omega)
     have hz := @size1 8 0 (some false) e3
     have hs : l - (sizeE (.mk 8 0 (some false) [e3]) : Int) = l - 1 - (sizeE e3 : Int) := by omega
     have hs1 := s3.2.2.2.1
     have s5 : (sizeE e3 : Int) ≤ 2 * l - 3 ∨ sizeE e3 ≤ 1 := by omega
     have s3' : Drn g false (sizeE e3) (n + 1) e3 := ⟨s3.1, s3.2.1, s3.2.2.1, s3.2.2.2.1, Int.le_refl _, s3.2.2.2.2.2⟩
     refine ⟨a3, sd3, .mk 8 0 (some false) [e3], by omega, by omega, (star_drn s3').mono (by omega) (Nat.le_refl _), fun _ => by omega, fun _ => by omega, ?_⟩
     rw [hs, eE_mk]
     refine afw_of_res (wv := .no) hr hm rfl rfl rfl fun hb ha => ?_
     simp +contextual -implicitDefEqProofs only [k_genExpr, uS, uR, srcD, eI, eB, w0, hl, hd, D.size, D.sizeL, go_sem, ↓reduceIte, Nat.reduceEqDiff, Nat.reduceAdd, Nat.reduceLeDiff, Nat.reduceBEq, Nat.reduceBneDiff, Nat.reduceLT]
     refine wcl_self [3000000001] [] (by rfl) (by rfl) (by rfl) hP1 rfl (by simp [wOut, outU, uS, srcD, noPtrs, D.noPtr, shWL, AV.shW, posW, shUs, U.shW, St.unit, lu]) ?_
     simp +contextual -implicitDefEqProofs only [uS, srcD, eB, D.size, go_sem, ↓reduceIte, Nat.reduceEqDiff, Nat.reduceAdd, Nat.reduceLeDiff, Nat.reduceLT]
     refine wcl_self [3000000001] [] (by rfl) (by rfl) (by rfl) hP2 rfl (by simp [wOut, outU, uS, srcD, noPtrs, D.noPtr, shWL, AV.shW, posW, shUs, U.shW, St.unit, lu]) ?_
     simp +contextual -implicitDefEqProofs only [uS, srcD, eI, wn, hk0b, hk4, go_sem, ↓reduceIte, Nat.reduceEqDiff]
     refine wcl_self [3000000000, 3000000001] [] (by rfl) (by rfl) (by rfl) hE rfl (by simp [wOut, outU, uS, uR, srcD, okWL, AV.okW, noPtrs, D.noPtr, shWL, AV.shW, posW, shUs, U.shW, St.unit, lu, eI, D.flat]) ?_
     simp +contextual -implicitDefEqProofs only [uS, uR, srcD, eI, eE_size, eE_flatX, List.map_cons, List.map_nil, D.put, D.cells, D.size, D.sizeL, modeOf, noPtrs, go_sem, ↓reduceIte, Nat.reduceEqDiff, Nat.reduceAdd, Nat.reduceLeDiff, Nat.reduceMul, Nat.reduceBEq, Nat.reduceBneDiff, Nat.reduceLT, Nat.reduceSub]
     exact ⟨by decide, by simp [eE_size]⟩
    ·obtain ⟨a3, sd3, b3, r1, r2, hP3⟩ := hc1 nn c a2 sd2 5 hc (by omega) (by omega)
     obtain ⟨a4, sd4, e4, s1, s2, s3, s4, s5, hE1⟩ := ih (dd - 1) a3 sd3 (l - 1) b3 (by omega) (by omega) (by omega) (by omega) (by omega)
     have hs4 := s3.2.2.2.1
     have s5 : (sizeE e4 : Int) ≤ 2 * l - 3 ∨ sizeE e4 ≤ 1 := by omega
     obtain ⟨a5, sd5, b5, r3, r4, hP5⟩ := hc1 nn c a4 sd4 6 hc (by omega) (by omega)
     obtain ⟨a6, sd6, e6, u1, u2, u3, u4, u5, hE2⟩ := ih (dd - 1) a5 sd5 (l - 1 - sizeE e4) b5 (by omega) (by omega) (by omega) (by omega) (by omega)
     have hs6 := u3.2.2.2.1
     have u5 : (sizeE e6 : Int) ≤ 2 * (l - 1 - sizeE e4) - 1 ∨ sizeE e6 ≤ 1 := by omega
     by_cases hk6 : x2 < 6
     ·have hz := @size2 6 0 (some false) e4 e6
      have hs : l - (sizeE (.mk 6 0 (some false) [e4, e6]) : Int) = l - 1 - (sizeE e4 : Int) - (sizeE e6 : Int) := by omega
      refine ⟨a6, sd6, .mk 6 0 (some false) [e4, e6], by omega, by omega, (pair_drn (by omega) s3 u3 (fun h => by cases h) (fun h => by cases h)).mono (by omega) (Nat.le_refl _), fun _ => by omega, fun _ => by omega, ?_⟩
      rw [hs, eE_mk]
      refine afw_of_res (wv := .no) hr hm rfl rfl rfl fun hb ha => ?_
      simp +contextual -implicitDefEqProofs only [k_genExpr, uS, uR, srcD, eI, eB, w0, hl, hd, D.size, D.sizeL, go_sem, ↓reduceIte, Nat.reduceEqDiff, Nat.reduceAdd, Nat.reduceLeDiff, Nat.reduceBEq, Nat.reduceBneDiff, Nat.reduceLT]
      refine wcl_self [3000000001] [] (by rfl) (by rfl) (by rfl) hP1 rfl (by simp [wOut, outU, uS, srcD, noPtrs, D.noPtr, shWL, AV.shW, posW, shUs, U.shW, St.unit, lu]) ?_
      simp +contextual -implicitDefEqProofs only [uS, srcD, eB, D.size, go_sem, ↓reduceIte, Nat.reduceEqDiff, Nat.reduceAdd, Nat.reduceLeDiff, Nat.reduceLT]
      refine wcl_self [3000000001] [] (by rfl) (by rfl) (by rfl) hP2 rfl (by simp [wOut, outU, uS, srcD, noPtrs, D.noPtr, shWL, AV.shW, posW, shUs, U.shW, St.unit, lu]) ?_
      simp +contextual -implicitDefEqProofs only [uS, srcD, eI, hk0b, hk4, hk6, D.size, go_sem, ↓reduceIte, Nat.reduceEqDiff, Nat.reduceAdd, Nat.reduceLeDiff, Nat.reduceLT]
      refine wcl_self [3000000001] [] (by rfl) (by rfl) (by rfl) hP3 rfl (by simp [wOut, outU, uS, srcD, noPtrs, D.noPtr, shWL, AV.shW, posW, shUs, U.shW, St.unit, lu]) ?_
      simp +contextual -implicitDefEqProofs only [uS, srcD, eB, wn, go_sem, ↓reduceIte, Nat.reduceEqDiff]
      refine wcl_self [3000000000, 3000000001] [] (by rfl) (by rfl) (by rfl) hE1 rfl (by simp [wOut, outU, uS, uR, srcD, okWL, AV.okW, noPtrs, D.noPtr, shWL, AV.shW, posW, shUs, U.shW, St.unit, lu, eI, D.flat]) ?_
      simp +contextual -implicitDefEqProofs only [uS, uR, srcD, eI, eE_size, eE_flatX, D.put, D.size, D.sizeL, modeOf, noPtrs, go_sem, ↓reduceIte, Nat.reduceEqDiff, Nat.reduceAdd, Nat.reduceLeDiff, Nat.reduceBEq, Nat.reduceBneDiff, Nat.reduceLT, Nat.reduceSub]
      refine wcl_self [3000000001] [] (by rfl) (by rfl) (by rfl) hP5 rfl (by simp [wOut, outU, uS, srcD, noPtrs, D.noPtr, shWL, AV.shW, posW, shUs, U.shW, St.unit, lu]) ?_
      simp +contextual -implicitDefEqProofs only [uS, srcD, eB, wn, go_sem, ↓reduceIte, Nat.reduceEqDiff]
      refine wcl_self [3000000000, 3000000001] [] (by rfl) (by rfl) (by rfl) hE2 rfl (by simp [wOut, outU, uS, uR, srcD, okWL, AV.okW, noPtrs, D.noPtr, shWL, AV.shW, posW, shUs, U.shW, St.unit, lu, eI, D.flat]) ?_
      simp +contextual -implicitDefEqProofs only [uS, uR, srcD, eI, eE_size, eE_isAg, encE.sub, eE_flatX, D.put, D.size, D.sizeL, modeOf, noPtrs, go_sem, ↓reduceIte, Nat.reduceEqDiff, Nat.reduceAdd, Nat.reduceLeDiff, Nat.reduceBEq, Nat.reduceBneDiff, Nat.reduceLT, Nat.reduceSub]
      refine callP_self rfl hc4 (by simp only [AV.aggV, itemOk, go_sem, beq_self_eq_true, Bool.and_self] <;> rfl) (by simp only [AV.aggV, itemOk, go_sem, beq_self_eq_true, Bool.and_self] <;> rfl) ?_
      simp +contextual -implicitDefEqProofs only [eE_isAg, encE.sub, List.map_cons, List.map_nil, D.put, D.cells, D.size, D.sizeL, modeOf, noPtrs, go_sem, ↓reduceIte, Nat.reduceEqDiff, Nat.reduceAdd, Nat.reduceLeDiff, Nat.reduceBEq, Nat.reduceBneDiff, Nat.reduceLT]
      simp [eE_size]
     ·have hz := @size2 7 0 (some false) e4 e6
      have hs : l - (sizeE (.mk 7 0 (some false) [e4, e6]) : Int) = l - 1 - (sizeE e4 : Int) - (sizeE e6 : Int) := by omega
      refine ⟨a6, sd6, .mk 7 0 (some false) [e4, e6], by omega, by omega, (pair_drn (by omega) s3 u3 (fun h => by cases h) (fun h => by cases h)).mono (by omega) (Nat.le_refl _), fun _ => by omega, fun _ => by omega, ?_⟩
      rw [hs, eE_mk]
      refine afw_of_res (wv := .no) hr hm rfl rfl rfl fun hb ha => ?_
      simp +contextual -implicitDefEqProofs only [k_genExpr, uS, uR, srcD, eI, eB, w0, hl, hd, D.size, D.sizeL, go_sem, ↓reduceIte, Nat.reduceEqDiff, Nat.reduceAdd, Nat.reduceLeDiff, Nat.reduceBEq, Nat.reduceBneDiff, Nat.reduceLT]
      refine wcl_self [3000000001] [] (by rfl) (by rfl) (by rfl) hP1 rfl (by simp [wOut, outU, uS, srcD, noPtrs, D.noPtr, shWL, AV.shW, posW, shUs, U.shW, St.unit, lu]) ?_
      simp +contextual -implicitDefEqProofs only [uS, srcD, eB, D.size, go_sem, ↓reduceIte, Nat.reduceEqDiff, Nat.reduceAdd, Nat.reduceLeDiff, Nat.reduceLT]
      refine wcl_self [3000000001] [] (by rfl) (by rfl) (by rfl) hP2 rfl (by simp [wOut, outU, uS, srcD, noPtrs, D.noPtr, shWL, AV.shW, posW, shUs, U.shW, St.unit, lu]) ?_
      simp +contextual -implicitDefEqProofs only [uS, srcD, eI, hk0b, hk4, hk6, D.size, go_sem, ↓reduceIte, Nat.reduceEqDiff, Nat.reduceAdd, Nat.reduceLeDiff, Nat.reduceLT]
      refine wcl_self [3000000001] [] (by rfl) (by rfl) (by rfl) hP3 rfl (by simp [wOut, outU, uS, srcD, noPtrs, D.noPtr, shWL, AV.shW, posW, shUs, U.shW, St.unit, lu]) ?_
      simp +contextual -implicitDefEqProofs only [uS, srcD, eB, wn, go_sem, ↓reduceIte, Nat.reduceEqDiff]
      refine wcl_self [3000000000, 3000000001] [] (by rfl) (by rfl) (by rfl) hE1 rfl (by simp [wOut, outU, uS, uR, srcD, okWL, AV.okW, noPtrs, D.noPtr, shWL, AV.shW, posW, shUs, U.shW, St.unit, lu, eI, D.flat]) ?_
      simp +contextual -implicitDefEqProofs only [uS, uR, srcD, eI, eE_size, eE_flatX, D.put, D.size, D.sizeL, modeOf, noPtrs, go_sem, ↓reduceIte, Nat.reduceEqDiff, Nat.reduceAdd, Nat.reduceLeDiff, Nat.reduceBEq, Nat.reduceBneDiff, Nat.reduceLT, Nat.reduceSub]
      refine wcl_self [3000000001] [] (by rfl) (by rfl) (by rfl) hP5 rfl (by simp [wOut, outU, uS, srcD, noPtrs, D.noPtr, shWL, AV.shW, posW, shUs, U.shW, St.unit, lu]) ?_
      simp +contextual -implicitDefEqProofs only [uS, srcD, eB, wn, go_sem, ↓reduceIte, Nat.reduceEqDiff]
      refine wcl_self [3000000000, 3000000001] [] (by rfl) (by rfl) (by rfl) hE2 rfl (by simp [wOut, outU, uS, uR, srcD, okWL, AV.okW, noPtrs, D.noPtr, shWL, AV.shW, posW, shUs, U.shW, St.unit, lu, eI, D.flat]) ?_
      simp +contextual -implicitDefEqProofs only [uS, uR, srcD, eI, eE_size, eE_isAg, encE.sub, eE_flatX, D.put, D.size, D.sizeL, modeOf, noPtrs, go_sem, ↓reduceIte, Nat.reduceEqDiff, Nat.reduceAdd, Nat.reduceLeDiff, Nat.reduceBEq, Nat.reduceBneDiff, Nat.reduceLT, Nat.reduceSub]
      refine callP_self rfl hc4 (by simp only [AV.aggV, itemOk, go_sem, beq_self_eq_true, Bool.and_self] <;> rfl) (by simp only [AV.aggV, itemOk, go_sem, beq_self_eq_true, Bool.and_self] <;> rfl) ?_
      simp +contextual -implicitDefEqProofs only [eE_isAg, encE.sub, List.map_cons, List.map_nil, D.put, D.cells, D.size, D.sizeL, modeOf, noPtrs, go_sem, ↓reduceIte, Nat.reduceEqDiff, Nat.reduceAdd, Nat.reduceLeDiff, Nat.reduceBEq, Nat.reduceBneDiff, Nat.reduceLT]
      simp [eE_size]
   ·by_cases hk4 : x2 < 4
    ·obtain ⟨a3, sd3, e3, s1, s2, s3, s4, s5, hE⟩ := ih (dd - 1) a2 sd2 (l - 1) true (by omega) (by omega) (by omega) (by omega) (by omega)
     have hz := @size1 5 0 (some false) e3
     have hs : l - (sizeE (.mk 5 0 (some false) [e3]) : Int) = l - 1 - (sizeE e3 : Int) := by omega
     have hs1 := s3.2.2.2.1
     have s5 : (sizeE e3 : Int) ≤ 2 * l - 3 ∨ sizeE e3 ≤ 1 := by omega
     have s3' : Drn g true (sizeE e3) (n + 1) e3 := ⟨s3.1, s3.2.1, s3.2.2.1, s3.2.2.2.1, Int.le_refl _, s3.2.2.2.2.2⟩
     refine ⟨a3, sd3, .mk 5 0 (some false) [e3], by omega, by omega, (not_drn s3').mono (by omega) (Nat.le_refl _), fun _ => by omega, fun _ => by omega, ?_⟩
     rw [hs, eE_mk]
     refine afw_of_res (wv := .no) hr hm rfl rfl rfl fun hb ha => ?_
     simp +contextual -implicitDefEqProofs only [k_genExpr, uS, uR, srcD, eI, eB, w0, hl, hd, D.size, D.sizeL, go_sem, ↓reduceIte, Nat.reduceEqDiff, Nat.reduceAdd, Nat.reduceLeDiff, Nat.reduceBEq, Nat.reduceBneDiff, Nat.reduceLT]
     refine wcl_self [3000000001] [] (by rfl) (by rfl) (by rfl) hP1 rfl (by simp [wOut, outU, uS, srcD, noPtrs, D.noPtr, shWL, AV.shW, posW, shUs, U.shW, St.unit, lu]) ?_
     simp +contextual -implicitDefEqProofs only [uS, srcD, eB, D.size, go_sem, ↓reduceIte, Nat.reduceEqDiff, Nat.reduceAdd, Nat.reduceLeDiff, Nat.reduceLT]
     refine wcl_self [3000000001] [] (by rfl) (by rfl) (by rfl) hP2 rfl (by simp [wOut, outU, uS, srcD, noPtrs, D.noPtr, shWL, AV.shW, posW, shUs, U.shW, St.unit, lu]) ?_
     simp +contextual -implicitDefEqProofs only [uS, srcD, eI, wn, hk0b, hk4, go_sem, ↓reduceIte, Nat.reduceEqDiff]
     refine wcl_self [3000000000, 3000000001] [] (by rfl) (by rfl) (by rfl) hE rfl (by simp [wOut, outU, uS, uR, srcD, okWL, AV.okW, noPtrs, D.noPtr, shWL, AV.shW, posW, shUs, U.shW, St.unit, lu, eI, D.flat]) ?_
     simp +contextual -implicitDefEqProofs only [uS, uR, srcD, eI, eE_size, eE_flatX, List.map_cons, List.map_nil, D.put, D.cells, D.size, D.sizeL, modeOf, noPtrs, go_sem, ↓reduceIte, Nat.reduceEqDiff, Nat.reduceAdd, Nat.reduceLeDiff, Nat.reduceMul, Nat.reduceBEq, Nat.reduceBneDiff, Nat.reduceLT, Nat.reduceSub]
     exact ⟨by decide, by simp [eE_size]⟩
    ·obtain ⟨a4, sd4, e4, s1, s2, s3, s4, s5, hE1⟩ := ih (dd - 1) a2 sd2 (l - 1) true (by omega) (by omega) (by omega) (by omega) (by omega)
     have hs4 := s3.2.2.2.1
     have s5 : (sizeE e4 : Int) ≤ 2 * l - 3 ∨ sizeE e4 ≤ 1 := by omega
     obtain ⟨a6, sd6, e6, u1, u2, u3, u4, u5, hE2⟩ := ih (dd - 1) a4 sd4 (l - 1 - sizeE e4) true (by omega) (by omega) (by omega) (by omega) (by omega)
     have hs6 := u3.2.2.2.1
     have u5 : (sizeE e6 : Int) ≤ 2 * (l - 1 - sizeE e4) - 1 ∨ sizeE e6 ≤ 1 := by omega
     by_cases hk6 : x2 < 6
     ·have hz := @size2 6 0 (some false) e4 e6
      have hs : l - (sizeE (.mk 6 0 (some false) [e4, e6]) : Int) = l - 1 - (sizeE e4 : Int) - (sizeE e6 : Int) := by omega
      refine ⟨a6, sd6, .mk 6 0 (some false) [e4, e6], by omega, by omega, (pair_drn (by omega) s3 u3 (fun _ => rfl) (fun _ => rfl)).mono (by omega) (Nat.le_refl _), fun _ => by omega, fun _ => by omega, ?_⟩
      rw [hs, eE_mk]
      refine afw_of_res (wv := .no) hr hm rfl rfl rfl fun hb ha => ?_
      simp +contextual -implicitDefEqProofs only [k_genExpr, uS, uR, srcD, eI, eB, w0, hl, hd, D.size, D.sizeL, go_sem, ↓reduceIte, Nat.reduceEqDiff, Nat.reduceAdd, Nat.reduceLeDiff, Nat.reduceBEq, Nat.reduceBneDiff, Nat.reduceLT]
      refine wcl_self [3000000001] [] (by rfl) (by rfl) (by rfl) hP1 rfl (by simp [wOut, outU, uS, srcD, noPtrs, D.noPtr, shWL, AV.shW, posW, shUs, U.shW, St.unit, lu]) ?_
      simp +contextual -implicitDefEqProofs only [uS, srcD, eB, D.size, go_sem, ↓reduceIte, Nat.reduceEqDiff, Nat.reduceAdd, Nat.reduceLeDiff, Nat.reduceLT]
      refine wcl_self [3000000001] [] (by rfl) (by rfl) (by rfl) hP2 rfl (by simp [wOut, outU, uS, srcD, noPtrs, D.noPtr, shWL, AV.shW, posW, shUs, U.shW, St.unit, lu]) ?_
      simp +contextual -implicitDefEqProofs only [uS, srcD, eI, wn, hk0b, hk4, hk6, go_sem, ↓reduceIte, Nat.reduceEqDiff]
      refine wcl_self [3000000000, 3000000001] [] (by rfl) (by rfl) (by rfl) hE1 rfl (by simp [wOut, outU, uS, uR, srcD, okWL, AV.okW, noPtrs, D.noPtr, shWL, AV.shW, posW, shUs, U.shW, St.unit, lu, eI, D.flat]) ?_
      simp +contextual -implicitDefEqProofs only [uS, uR, srcD, eI, eE_size, eE_flatX, wn, D.put, D.size, D.sizeL, modeOf, noPtrs, go_sem, ↓reduceIte, Nat.reduceEqDiff, Nat.reduceAdd, Nat.reduceLeDiff, Nat.reduceBEq, Nat.reduceBneDiff, Nat.reduceLT, Nat.reduceSub]
      refine wcl_self [3000000000, 3000000001] [] (by rfl) (by rfl) (by rfl) hE2 rfl (by simp [wOut, outU, uS, uR, srcD, okWL, AV.okW, noPtrs, D.noPtr, shWL, AV.shW, posW, shUs, U.shW, St.unit, lu, eI, D.flat]) ?_
      simp +contextual -implicitDefEqProofs only [uS, uR, srcD, eI, eE_size, eE_isAg, encE.sub, eE_flatX, D.put, D.size, D.sizeL, modeOf, noPtrs, go_sem, ↓reduceIte, Nat.reduceEqDiff, Nat.reduceAdd, Nat.reduceLeDiff, Nat.reduceBEq, Nat.reduceBneDiff, Nat.reduceLT, Nat.reduceSub]
      refine callP_self rfl hc4 (by simp only [AV.aggV, itemOk, go_sem, beq_self_eq_true, Bool.and_self] <;> rfl) (by simp only [AV.aggV, itemOk, go_sem, beq_self_eq_true, Bool.and_self] <;> rfl) ?_
      simp +contextual -implicitDefEqProofs only [eE_isAg, encE.sub, List.map_cons, List.map_nil, D.put, D.cells, D.size, D.sizeL, modeOf, noPtrs, go_sem, ↓reduceIte, Nat.reduceEqDiff, Nat.reduceAdd, Nat.reduceLeDiff, Nat.reduceBEq, Nat.reduceBneDiff, Nat.reduceLT]
      simp [eE_size]
     ·have hz := @size2 7 0 (some false) e4 e6
      have hs : l - (sizeE (.mk 7 0 (some false) [e4, e6]) : Int) = l - 1 - (sizeE e4 : Int) - (sizeE e6 : Int) := by omega
      refine ⟨a6, sd6, .mk 7 0 (some false) [e4, e6], by omega, by omega, (pair_drn (by omega) s3 u3 (fun _ => rfl) (fun _ => rfl)).mono (by omega) (Nat.le_refl _), fun _ => by omega, fun _ => by omega, ?_⟩
      rw [hs, eE_mk]
      refine afw_of_res (wv := .no) hr hm rfl rfl rfl fun hb ha => ?_
      simp +contextual -implicitDefEqProofs only [k_genExpr, uS, uR, srcD, eI, eB, w0, hl, hd, D.size, D.sizeL, go_sem, ↓reduceIte, Nat.reduceEqDiff, Nat.reduceAdd, Nat.reduceLeDiff, Nat.reduceBEq, Nat.reduceBneDiff, Nat.reduceLT]
      refine wcl_self [3000000001] [] (by rfl) (by rfl) (by rfl) hP1 rfl (by simp [wOut, outU, uS, srcD, noPtrs, D.noPtr, shWL, AV.shW, posW, shUs, U.shW, St.unit, lu]) ?_
      simp +contextual -implicitDefEqProofs only [uS, srcD, eB, D.size, go_sem, ↓reduceIte, Nat.reduceEqDiff, Nat.reduceAdd, Nat.reduceLeDiff, Nat.reduceLT]
      refine wcl_self [3000000001] [] (by rfl) (by rfl) (by rfl) hP2 rfl (by simp [wOut, outU, uS, srcD, noPtrs, D.noPtr, shWL, AV.shW, posW, shUs, U.shW, St.unit, lu]) ?_
      simp +contextual -implicitDefEqProofs only [uS, srcD, eI, wn, hk0b, hk4, hk6, go_sem, ↓reduceIte, Nat.reduceEqDiff]
      refine wcl_self [3000000000, 3000000001] [] (by rfl) (by rfl) (by rfl) hE1 rfl (by simp [wOut, outU, uS, uR, srcD, okWL, AV.okW, noPtrs, D.noPtr, shWL, AV.shW, posW, shUs, U.shW, St.unit, lu, eI, D.flat]) ?_
      simp +contextual -implicitDefEqProofs only [uS, uR, srcD, eI, eE_size, eE_flatX, wn, D.put, D.size, D.sizeL, modeOf, noPtrs, go_sem, ↓reduceIte, Nat.reduceEqDiff, Nat.reduceAdd, Nat.reduceLeDiff, Nat.reduceBEq, Nat.reduceBneDiff, Nat.reduceLT, Nat.reduceSub]
      refine wcl_self [3000000000, 3000000001] [] (by rfl) (by rfl) (by rfl) hE2 rfl (by simp [wOut, outU, uS, uR, srcD, okWL, AV.okW, noPtrs, D.noPtr, shWL, AV.shW, posW, shUs, U.shW, St.unit, lu, eI, D.flat]) ?_
      simp +contextual -implicitDefEqProofs only [uS, uR, srcD, eI, eE_size, eE_isAg, encE.sub, eE_flatX, D.put, D.size, D.sizeL, modeOf, noPtrs, go_sem, ↓reduceIte, Nat.reduceEqDiff, Nat.reduceAdd, Nat.reduceLeDiff, Nat.reduceBEq, Nat.reduceBneDiff, Nat.reduceLT, Nat.reduceSub]
      refine callP_self rfl hc4 (by simp only [AV.aggV, itemOk, go_sem, beq_self_eq_true, Bool.and_self] <;> rfl) (by simp only [AV.aggV, itemOk, go_sem, beq_self_eq_true, Bool.and_self] <;> rfl) ?_
      simp +contextual -implicitDefEqProofs only [eE_isAg, encE.sub, List.map_cons, List.map_nil, D.put, D.cells, D.size, D.sizeL, modeOf, noPtrs, go_sem, ↓reduceIte, Nat.reduceEqDiff, Nat.reduceAdd, Nat.reduceLeDiff, Nat.reduceBEq, Nat.reduceBneDiff, Nat.reduceLT]
      simp [eE_size]
  ·obtain ⟨a9, sd9, e9, t1, t2, t3, hL⟩ := hc2 nn c a1 sd1 g (l - 1) cond hc hg (by omega) (by omega)
   have hs9 : (sizeE e9 : Int) = 1 := by have h1 := t3.2.2.2.1; have h2 := t3.2.2.2.2.1; omega
   refine ⟨a9, sd9, e9, by omega, by omega, t3.mono (by omega) (by omega), fun _ => by omega, fun _ => by omega, ?_⟩
   rw [hs9]
   refine afw_of_res (wv := .no) hr hm rfl rfl rfl fun hb ha => ?_
   simp +contextual -implicitDefEqProofs only [k_genExpr, uS, uR, srcD, eI, eB, w0, hl, hd, D.size, D.sizeL, go_sem, ↓reduceIte, Nat.reduceEqDiff, Nat.reduceAdd, Nat.reduceLeDiff, Nat.reduceBEq, Nat.reduceBneDiff, Nat.reduceLT]
   refine wcl_self [3000000001] [] (by rfl) (by rfl) (by rfl) hP1 rfl (by simp [wOut, outU, uS, srcD, noPtrs, D.noPtr, shWL, AV.shW, posW, shUs, U.shW, St.unit, lu]) ?_
   simp +contextual -implicitDefEqProofs only [uS, srcD, eB, go_sem, ↓reduceIte, Nat.reduceEqDiff]
   refine wcl_self [3000000000, 3000000001] [] (by rfl) (by rfl) (by rfl) hL rfl (by simp [wOut, outU, uS, uR, srcD, okWL, AV.okW, noPtrs, D.noPtr, shWL, AV.shW, posW, shUs, U.shW, St.unit, lu, eI, D.flat]) ?_
   simp +contextual -implicitDefEqProofs only [uS, uR, srcD, eI, eE_size, eE_isAg, encE.sub, eE_flatX, D.put, modeOf, noPtrs, go_sem, ↓reduceIte, Nat.reduceEqDiff, Nat.reduceAdd, Nat.reduceLeDiff, Nat.reduceBEq, Nat.reduceBneDiff, Nat.reduceLT, Nat.reduceSub]
end Go.Ax
