/- Contracts of functions of the seat, proved over the engine. No condition. -/
import Derived.Test.YtjnghfepojipiaaX101
import Derived.Test.YtjnghfepojipiaaX22
set_option linter.unusedSimpArgs false
set_option linter.unusedVariables false
set_option linter.unnecessarySimpa false
namespace Go.Ax
set_option linter.unusedSimpArgs false
set_option maxRecDepth 20000
set_option maxHeartbeats 4000000

def k_l01Drawn (f1 : Nat) : RC := (.seq (.reg false [⟨none, .box 4 2 (.t 1)⟩, ⟨none, .zer 6 3 (.ag [(.sc (.int .i64 0)), (.sc (.int .i64 0)), (.ls (some true) 3 [])])⟩]) ((.seq (.reg false [⟨none, .mv 8 (.t 0)⟩, ⟨none, .ld 9 true 2 (.t 4)⟩, ⟨none, .mv 10 (.t 2)⟩, ⟨none, .bld 11 (.ag [(.sc (.pointer none)), (.sc (.int .i64 0)), (.sc (.int .i64 0)), (.sc (.int .i64 0))]) [(0, 1, (.t 8)), (1, 2, (.t 9)), (3, 1, (.t 10))]⟩, ⟨none, .box 12 4 (.t 11)⟩, ⟨none, .mv 7 (.t 12)⟩]) ((.seq (.reg false [⟨none, .mv 13 (.t 7)⟩, ⟨none, .wcl (some 14) f1 [(.t 13), (.c (.sc (.bool false))), (.c (.sc (.int .i64 6)))]⟩, ⟨none, .st 3 (.t 6) (.t 14)⟩]) (.ret))))))
def K_l01Drawn (P : Program) (fno : Nat) : Prop := ∀ (nn : Option Bool) (c : List Int) (a sd : Int) (g : Int × Int) (m : Int), srcOk c → okG g = true → 0 ≤ a → a ≤ 100000000 → 1 ≤ m → m ≤ 1000 → ∃ a' sd' e, a ≤ a' ∧ a' ≤ a + 28000 ∧ Drn g false (2 * m - 1) 7 e ∧ AFW P fno [uS nn c a sd] [.pw 3000000000 0 0, .im none (eG g), .im none (eI m)] [uS nn c a' sd'] (.own (eE e))
theorem a_l01Drawn {P : Program} (hm : P.follows .mixedOrders = true) {g f1 : Nat} (hr : resF P g = some (15, k_l01Drawn f1, [.c 6 3 true])) (hc1 : K_genExpr P f1) : K_l01Drawn P g := by
 intro nn c a sd g m hc hg h0 hA hm1 hm2
 obtain ⟨a1, sd1, e, s1, s2, s3, s4, s5, hE⟩ := hc1 nn c g hc hg 6 6 a sd m false rfl h0 (by omega) (by omega) hm2
 have h1 := s3.2.2.2.1
 have h2 : (sizeE e : Int) ≤ 2 * m - 1 := by by_cases h : 1 < m; exact s5 h; have := s4 (by omega); omega
 refine ⟨a1, sd1, e, by omega, by omega, ⟨s3.1, s3.2.1, s3.2.2.1, s3.2.2.2.1, h2, s3.2.2.2.2.2⟩, ?_⟩
 refine afw_of_res (wv := .no) hr hm rfl rfl rfl fun hb ha => ?_
 simp +contextual -implicitDefEqProofs only [k_l01Drawn, uS, srcD, eI, eG, D.size, D.sizeL, go_sem, ↓reduceIte, Nat.reduceEqDiff, Nat.reduceAdd, Nat.reduceLeDiff, Nat.reduceBneDiff, Nat.reduceLT, Nat.reduceSub]
 refine ⟨by decide, ?_⟩
 refine wcl_self [12, 3000000000] [] (by rfl) (by rfl) (by rfl) hE rfl (by simp [wOut, outU, uS, uR, srcD, okWL, AV.okW, noPtrs, D.noPtr, shWL, AV.shW, posW, shUs, U.shW, St.unit, lu, eI, D.flat]) ?_
 simp +contextual -implicitDefEqProofs only [uS, uR, srcD, eI, eE_size, eE_isAg, encE.sub, eE_flatX, D.put, modeOf, noPtrs, go_sem, ↓reduceIte, Nat.reduceEqDiff, Nat.reduceAdd, Nat.reduceLeDiff, Nat.reduceBEq, Nat.reduceBneDiff, Nat.reduceLT, Nat.reduceSub]

def k_p6Expr (f1 f2 : Nat) : RC := (.seq (.reg false [⟨none, .box 4 2 (.t 1)⟩, ⟨none, .zer 6 3 (.ag [(.sc (.int .i64 0)), (.sc (.int .i64 0)), (.ls (some true) 3 [])])⟩]) ((.seq (.reg true [⟨none, .mv 7 (.t 0)⟩, ⟨none, .call (some 8) f1 [(.t 7)]⟩, ⟨none, .ld 9 true 2 (.t 4)⟩, ⟨none, .mv 10 (.t 2)⟩, ⟨none, .wcl (some 11) f2 [(.t 8), (.t 9), (.t 10)]⟩, ⟨none, .st 3 (.t 6) (.t 11)⟩]) (.ret))))
def K_p6Expr (P : Program) (fno : Nat) : Prop := ∀ (nn : Option Bool) (c : List Int) (g : Int × Int) (m : Int), srcOk c → okG g = true → 1 ≤ m → m ≤ 1000 → ∃ e, Drn g false (2 * m - 1) 7 e ∧ AF P fno [.ls nn 1 (c.map eU), eG g, eI m] (.own (eE e))
theorem a_p6Expr {P : Program} (hm : P.follows .mixedOrders = true) {g f1 f2 : Nat} (hr : resF P g = some (12, k_p6Expr f1 f2, [.c 6 3 true])) (hc1 : K_l00From P f1) (hc2 : K_l01Drawn P f2) : K_p6Expr P g := by
 intro nn c g m hc hg h1 h2
 obtain ⟨a1, sd1, e, s1, s2, s3, hE⟩ := hc2 nn c 0 0 g m hc hg (by omega) (by omega) h1 h2
 refine ⟨e, s3, ?_⟩
 refine af_of_res hr hm rfl fun hb => ?_
 simp +contextual -implicitDefEqProofs only [k_p6Expr, eI, eG, D.size, D.sizeL, go_sem, ↓reduceIte, Nat.reduceEqDiff, Nat.reduceAdd, Nat.reduceBneDiff, Nat.reduceLT]
 refine callQ_self ?_ (hc1 nn c) ?_
 ·exact rfl
 simp +contextual -implicitDefEqProofs only [srcD, D.size, D.sizeL, go_sem, ↓reduceIte, Nat.reduceEqDiff, Nat.reduceAdd, Nat.reduceLeDiff, Nat.reduceBneDiff]
 refine wcl_self [8] [] (by rfl) (by rfl) (by rfl) hE rfl (by simp [wOut, outU, uS, srcD, noPtrs, D.noPtr, shWL, AV.shW, posW, shUs, U.shW, St.unit, lu]) ?_
 simp +contextual -implicitDefEqProofs only [uS, srcD, eE_size, eE_isAg, encE.sub, eE_flatX, D.put, modeOf, noPtrs, go_sem, ↓reduceIte, Nat.reduceEqDiff, Nat.reduceLeDiff, Nat.reduceBEq, Nat.reduceBneDiff, Nat.reduceLT]

end Go.Ax
