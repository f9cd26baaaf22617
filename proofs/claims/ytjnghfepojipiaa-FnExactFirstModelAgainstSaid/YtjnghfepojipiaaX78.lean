/- Contracts of functions of the seat, proved over the engine. No condition. -/
import Derived.Test.YtjnghfepojipiaaX20
import Derived.Test.YtjnghfepojipiaaX46
import Derived.Test.YtjnghfepojipiaaX10
set_option linter.unusedSimpArgs false
set_option linter.unusedVariables false
set_option linter.unnecessarySimpa false
namespace Go.Ax
set_option linter.unusedSimpArgs false
set_option maxRecDepth 20000
set_option maxHeartbeats 4000000

def k_markEquation (f1 : Nat) : RC := (.seq (.reg false [⟨none, .box 2 6 (.t 0)⟩, ⟨none, .mv 4 (.c (.sc (.int .i64 0)))⟩]) ((.seq (.reg false [⟨none, .fa 5 0 (.t 2)⟩, ⟨none, .ld 6 true 3 (.t 5)⟩, ⟨none, .mv 7 (.t 1)⟩, ⟨none, .mcl 8 f1 (.t 6) (.t 7)⟩, ⟨none, .mv 1 (.t 8)⟩]) ((.seq (.reg false [⟨none, .fa 9 3 (.t 2)⟩, ⟨none, .ld 10 true 3 (.t 9)⟩, ⟨none, .mv 11 (.t 1)⟩, ⟨none, .mcl 12 f1 (.t 10) (.t 11)⟩, ⟨none, .mv 1 (.t 12)⟩]) ((.seq (.reg false [⟨none, .mv 13 (.t 1)⟩, ⟨none, .mv 4 (.t 13)⟩]) (.ret))))))))
def K_markEquation (P : Program) (fno : Nat) : Prop := ∀ (q : Eq2) (k : Int), 0 ≤ k → k + cntE0 q.1 + cntE0 q.2 ≤ maxK → AFM P fno (eQ q) k (eQ (mkE0 q.1 k, mkE0 q.2 (k + cntE0 q.1))) (k + cntE0 q.1 + cntE0 q.2)
theorem a_markEquation {P : Program} (hm : P.follows .mixedOrders = true) {g f1 : Nat} (hr : resF P g = some (14, k_markEquation f1, [.t 4])) (hc1 : K_markExpr P f1) : K_markEquation P g := by
 intro q k h0 hb
 obtain ⟨a, b⟩ := q
 obtain ⟨ak, av, ann, aks, rfl⟩ := Ex.ex a
 obtain ⟨bk, bv, bnn, bks, rfl⟩ := Ex.ex b
 have hA := hc1 (.mk ak av ann aks)
 have hB := hc1 (.mk bk bv bnn bks)
 simp only [mkE0_mk, cntE0_mk, eE_mk] at hA hB
 simp only [cntE0_mk] at hb
 simp only [mkE0_mk, cntE0_mk, eQ]
 refine afm_ag hr (by omega) rfl fun hbd => ?_
 simp +contextual -implicitDefEqProofs only [k_markEquation, D.size, D.sizeL, D.at, D.sub, D.isAg, go_sem, eI, eB, ↓reduceIte, Nat.reduceEqDiff, Nat.reduceAdd, Nat.reduceLeDiff, Nat.reduceMul, Nat.reduceBEq, Nat.reduceBneDiff, Nat.reduceLT, Nat.reduceSub, Int.ofNat_lt, List.length_map, Int.natCast_nonneg]
 refine mMcl_sg (e' := .ag [.sc (.int .i64 ak), .sc (.int .i64 av), .ls ann 3 ((mkL mkE cntE aks k).map eE)]) (n' := k + cntL cntE aks) ?_ rfl ?_
 ·exact hA k h0 (by omega)
 simp +contextual -implicitDefEqProofs only [D.put, D.cells, D.at, D.size, D.sizeL, D.sub, D.isAg, go_sem, eI, eB, ↓reduceIte, Nat.reduceEqDiff, Nat.reduceAdd, Nat.reduceLeDiff, Nat.reduceMul, Nat.reduceBEq, Nat.reduceBneDiff, Nat.reduceLT, Nat.reduceSub, Int.ofNat_lt, List.length_map, Int.natCast_nonneg]
 refine mMcl_sg (e' := .ag [.sc (.int .i64 bk), .sc (.int .i64 bv), .ls bnn 3 ((mkL mkE cntE bks (k + cntL cntE aks)).map eE)]) (n' := k + cntL cntE aks + cntL cntE bks) ?_ rfl ?_
 ·exact hB _ (by omega) (by omega)
 simp +contextual -implicitDefEqProofs only [D.put, D.cells, D.at, D.size, D.sizeL, D.sub, D.isAg, go_sem, eI, eB, ↓reduceIte, Nat.reduceEqDiff, Nat.reduceAdd, Nat.reduceLeDiff, Nat.reduceMul, Nat.reduceBEq, Nat.reduceBneDiff, Nat.reduceLT, Nat.reduceSub, Int.ofNat_lt, List.length_map, Int.natCast_nonneg]
 rfl
end Go.Ax
