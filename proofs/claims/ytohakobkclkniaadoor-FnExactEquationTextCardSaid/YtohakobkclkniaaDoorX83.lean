/- Contracts of functions of the seat, proved over the engine. No condition. -/
import Derived.Test.YtohakobkclkniaaDoorX81
set_option linter.unusedSimpArgs false
set_option linter.unusedVariables false
set_option linter.unnecessarySimpa false
namespace Go.Ax
set_option linter.unusedSimpArgs false
set_option maxRecDepth 20000
set_option maxHeartbeats 4000000
theorem textE_size {g : Int × Int} (hg : okG g = true) : ∀ e : Ex, treeE g e = true → (textE e).size ≤ 5 * sizeE e :=
 Ex.ind fun k v nn ks ih hT => by
  rw [treeE_mk, Bool.and_eq_true, List.all_eq_true] at hT
  rw [textE_mk, sizeE_mk]
  have hK := tx_ok hg hT.1
  cases hK with
  | zero h hk => subst h hk; simp [textOp, sizeEs, bsz]
  | one h hk => subst h hk; simp [textOp, sizeEs, bsz]
  | test h hk n hv hn =>
   subst h hk hv
   have := decB_size (n := n)
   simp [textOp, sizeEs, bsz]; omega
  | act h hk n hv hn =>
   subst h hk hv
   have := decB_size (n := n)
   simp [textOp, sizeEs, bsz]; omega
  | nt h a hk =>
   subst h hk
   have := ih a (by simp) (hT.2 a (by simp))
   simp [textOp, sizeEs, bsz]; omega
  | sum h a b hk =>
   subst h hk
   have h1 := ih a (by simp) (hT.2 a (by simp))
   have h2 := ih b (by simp) (hT.2 b (by simp))
   simp [textOp, sizeEs, bsz]; omega
  | dot h a b hk =>
   subst h hk
   have h1 := ih a (by simp) (hT.2 a (by simp))
   have h2 := ih b (by simp) (hT.2 b (by simp))
   simp [textOp, sizeEs, bsz]; omega
  | star h a hk =>
   subst h hk
   have := ih a (by simp) (hT.2 a (by simp))
   simp [textOp, sizeEs, bsz]; omega
theorem okE_tree {g : Int × Int} {e : Ex} (h : okE g e = true) : treeE g e = true := by
 simp only [okE, Bool.and_eq_true] at h
 exact h.2.2
theorem okE_size {g : Int × Int} {e : Ex} (hg : okG g = true) (h : okE g e = true) : (textE e).size ≤ 1000 := by
 have ht := textE_size hg e (okE_tree h)
 simp only [okE, Bool.and_eq_true, decide_eq_true_eq] at h
 omega

def lineT (q : Eq2) : ByteArray := textE q.1 ++ ⟨#[32, 61, 32]⟩ ++ textE q.2
def txtQ (g : Int × Int) (q : Eq2) : ByteArray := if okQ g q then lineT q else ⟨#[]⟩
theorem okQ_and {g : Int × Int} {q : Eq2} (h : okQ g q = true) : okG g = true ∧ okE g q.1 = true ∧ okE g q.2 = true := by
 simpa [okQ] using h

def k_l04Line (f1 : Nat) : RC := (.seq (.reg false [⟨none, .mv 2 (.c (.sc (.string ⟨#[]⟩)))⟩]) ((.seq (.reg true [⟨none, .mv 3 (.t 0)⟩, ⟨none, .nck 4 (.t 3)⟩, ⟨none, .fa 5 0 (.t 4)⟩, ⟨none, .call (some 6) f1 [(.t 5)]⟩, ⟨none, .bin 7 .add (.t 6) (.c (.sc (.string ⟨#[32, 61, 32]⟩)))⟩, ⟨none, .mv 8 (.t 0)⟩, ⟨none, .nck 9 (.t 8)⟩, ⟨none, .fa 10 3 (.t 9)⟩, ⟨none, .call (some 11) f1 [(.t 10)]⟩, ⟨none, .bin 12 .add (.t 7) (.t 11)⟩, ⟨none, .mv 2 (.t 12)⟩]) (.ret))))
def K_l04Line (P : Program) (fno : Nat) : Prop := ∀ (g0 : Int × Int) (hg : okG g0 = true) (q : Eq2) (h1 : treeE g0 q.1 = true) (h2 : treeE g0 q.2 = true) (z1 : (textE q.1).size ≤ 1000000) (z2 : (textE q.2).size ≤ 1000000), AF P fno [.pt (eQ q) 0] (.own (eT (lineT q)))
theorem a_l04Line {P : Program} (hm : P.follows .mixedOrders = true) {g f1 : Nat} (hr : resF P g = some (13, k_l04Line f1, [.t 2])) (hc1 : K_l01Text P f1) : K_l04Line P g := by
 intro g0 hg q h1 h2 z1 z2
 refine af_of_res hr hm rfl fun hb => ?_
 simp +contextual -implicitDefEqProofs only [k_l04Line, eQ, eI, D.put, D.cells, D.size, D.sizeL, D.isAg, modeOf, noPtrs, List.length_map, go_sem, eB, ↓reduceIte, Nat.reduceEqDiff, Nat.reduceAdd, Nat.reduceLeDiff, Nat.reduceMul, Nat.reduceBEq, Nat.reduceBneDiff, Nat.reduceLT, Nat.reduceSub, Int.ofNat_lt, Int.natCast_nonneg]
 refine callQ_le (es := [.pt (eE q.1) 0]) rfl ⟨D.LeA.sub (sz := 3) (by simp [D.size, D.sizeL]) rfl (by omega) (by rw [eE_eta]; rfl), trivial⟩ (hc1 g0 hg q.1 h1 (by omega)) ?_
 simp +contextual -implicitDefEqProofs only [eT, D.put, D.cells, D.size, D.sizeL, D.isAg, modeOf, noPtrs, List.length_map, go_sem, eI, eB, ↓reduceIte, Nat.reduceEqDiff, Nat.reduceAdd, Nat.reduceLeDiff, Nat.reduceMul, Nat.reduceBEq, Nat.reduceBneDiff, Nat.reduceLT, Nat.reduceSub, Int.ofNat_lt, Int.natCast_nonneg]
 refine ⟨by simp only [ByteArray.size_append, bsz, List.size_toArray, List.length_cons, List.length_nil]; omega, ?_⟩
 refine callQ_le (es := [.pt (eE q.2) 0]) rfl ⟨D.LeA.sub (sz := 3) (by simp [D.size, D.sizeL]) rfl (by omega) (by rw [eE_eta]; rfl), trivial⟩ (hc1 g0 hg q.2 h2 (by omega)) ?_
 simp +contextual -implicitDefEqProofs only [eT, D.put, D.cells, D.size, D.sizeL, D.isAg, modeOf, noPtrs, List.length_map, go_sem, eI, eB, ↓reduceIte, Nat.reduceEqDiff, Nat.reduceAdd, Nat.reduceLeDiff, Nat.reduceMul, Nat.reduceBEq, Nat.reduceBneDiff, Nat.reduceLT, Nat.reduceSub, Int.ofNat_lt, Int.natCast_nonneg]
 exact ⟨by simp only [ByteArray.size_append, bsz, List.size_toArray, List.length_cons, List.length_nil]; omega, D.Le.sc_eq rfl⟩

def k_equationText (f1 : Nat) : RC := (.seq (.reg false [⟨none, .box 1 6 (.t 0)⟩, ⟨none, .mv 2 (.c (.sc (.string ⟨#[]⟩)))⟩]) ((.seq (.reg true [⟨none, .fa 3 0 (.t 1)⟩, ⟨none, .ld 4 true 3 (.t 3)⟩, ⟨none, .call (some 5) f1 [(.t 4)]⟩, ⟨none, .bin 6 .add (.t 5) (.c (.sc (.string ⟨#[32, 61, 32]⟩)))⟩, ⟨none, .fa 7 3 (.t 1)⟩, ⟨none, .ld 8 true 3 (.t 7)⟩, ⟨none, .call (some 9) f1 [(.t 8)]⟩, ⟨none, .bin 10 .add (.t 6) (.t 9)⟩, ⟨none, .mv 2 (.t 10)⟩]) (.ret))))
def K_equationText (P : Program) (fno : Nat) : Prop := ∀ (g0 : Int × Int) (hg : okG g0 = true) (q : Eq2) (h1 : treeE g0 q.1 = true) (h2 : treeE g0 q.2 = true) (z1 : (textE q.1).size ≤ 1000000) (z2 : (textE q.2).size ≤ 1000000), AF P fno [eQ q] (.own (eT (lineT q)))
theorem a_equationText {P : Program} (hm : P.follows .mixedOrders = true) {g f1 : Nat} (hr : resF P g = some (11, k_equationText f1, [.t 2])) (hc1 : K_textOf P f1) : K_equationText P g := by
 intro g0 hg q h1 h2 z1 z2
 refine af_of_res hr hm rfl fun hb => ?_
 simp +contextual -implicitDefEqProofs only [k_equationText, eQ, eI, D.at, D.sub, List.drop_zero, List.take_succ_cons, List.take_zero, List.drop_succ_cons, D.put, D.cells, D.size, D.sizeL, D.isAg, modeOf, noPtrs, List.length_map, go_sem, eB, ↓reduceIte, Nat.reduceEqDiff, Nat.reduceAdd, Nat.reduceLeDiff, Nat.reduceMul, Nat.reduceBEq, Nat.reduceBneDiff, Nat.reduceLT, Nat.reduceSub, Int.ofNat_lt, Int.natCast_nonneg]
 refine callQ_self (ds := [eE q.1]) (by rw [eE_eta]; rfl) (hc1 g0 hg q.1 h1 (by omega)) ?_
 simp +contextual -implicitDefEqProofs only [eT, eQ, eI, D.at, D.sub, List.drop_zero, List.take_succ_cons, List.take_zero, List.drop_succ_cons, D.put, D.cells, D.size, D.sizeL, D.isAg, modeOf, noPtrs, List.length_map, go_sem, eB, ↓reduceIte, Nat.reduceEqDiff, Nat.reduceAdd, Nat.reduceLeDiff, Nat.reduceMul, Nat.reduceBEq, Nat.reduceBneDiff, Nat.reduceLT, Nat.reduceSub, Int.ofNat_lt, Int.natCast_nonneg]
 refine ⟨by simp only [ByteArray.size_append, bsz, List.size_toArray, List.length_cons, List.length_nil]; omega, ?_⟩
 refine callQ_self (ds := [eE q.2]) (by rw [eE_eta]; rfl) (hc1 g0 hg q.2 h2 (by omega)) ?_
 simp +contextual -implicitDefEqProofs only [eT, D.put, D.cells, D.size, D.sizeL, D.isAg, modeOf, noPtrs, List.length_map, go_sem, eI, eB, ↓reduceIte, Nat.reduceEqDiff, Nat.reduceAdd, Nat.reduceLeDiff, Nat.reduceMul, Nat.reduceBEq, Nat.reduceBneDiff, Nat.reduceLT, Nat.reduceSub, Int.ofNat_lt, Int.natCast_nonneg]
 exact ⟨by simp only [ByteArray.size_append, bsz, List.size_toArray, List.length_cons, List.length_nil]; omega, D.Le.sc_eq rfl⟩

def k_spEquationText (f1 f2 : Nat) : RC := (.seq (.reg false [⟨none, .box 2 2 (.t 0)⟩, ⟨none, .box 3 6 (.t 1)⟩, ⟨none, .mv 4 (.c (.sc (.string ⟨#[]⟩)))⟩]) ((.seq ((.seq (.reg false [⟨none, .ld 5 true 2 (.t 2)⟩, ⟨none, .call (some 6) f1 [(.t 5), (.t 3)]⟩, ⟨none, .un 7 .not (.t 6)⟩]) (.cond (.t 7) ((.seq (.reg false [⟨none, .mv 4 (.c (.sc (.string ⟨#[]⟩)))⟩]) (.ret))) (.skip)))) ((.seq (.reg false [⟨none, .call (some 8) f2 [(.t 3)]⟩, ⟨none, .mv 4 (.t 8)⟩]) (.ret))))))
def K_spEquationText (P : Program) (fno : Nat) : Prop := ∀ (g0 : Int × Int) (q : Eq2), AF P fno [eG g0, eQ q] (.own (eT (txtQ g0 q)))
theorem a_spEquationText {P : Program} (hm : P.follows .mixedOrders = true) {g f1 f2 : Nat} (hr : resF P g = some (9, k_spEquationText f1 f2, [.t 4])) (hc1 : K_l04Equation P f1) (hc2 : K_l04Line P f2) : K_spEquationText P g := by
 intro g0 q
 refine af_of_res hr hm rfl fun hb => ?_
 simp +contextual -implicitDefEqProofs only [k_spEquationText, eQ, eI, eG, D.put, D.cells, D.size, D.sizeL, D.isAg, modeOf, noPtrs, List.length_map, go_sem, eB, ↓reduceIte, Nat.reduceEqDiff, Nat.reduceAdd, Nat.reduceLeDiff, Nat.reduceMul, Nat.reduceBEq, Nat.reduceBneDiff, Nat.reduceLT, Nat.reduceSub, Int.ofNat_lt, Int.natCast_nonneg]
 refine callQ_self (ds := [eG g0, .pt (eQ q) 0]) (by rfl) (hc1 g0 q) ?_
 cases ho : okQ g0 q
 ·simp +contextual -implicitDefEqProofs only [eT, eB, txtQ, ho, bne, Bool.not_true, Bool.not_false, Bool.true_and, Bool.false_and, Bool.and_true, Bool.and_false, Bool.true_or, Bool.false_or, Bool.or_true, Bool.or_false, D.put, D.cells, D.size, D.sizeL, D.isAg, modeOf, noPtrs, List.length_map, go_sem, eI, ↓reduceIte, Nat.reduceEqDiff, Nat.reduceAdd, Nat.reduceLeDiff, Nat.reduceMul, Nat.reduceBEq, Nat.reduceBneDiff, Nat.reduceLT, Nat.reduceSub, Int.ofNat_lt, Int.natCast_nonneg]
 ·obtain ⟨hg, o1, o2⟩ := okQ_and ho
  have z1 := okE_size hg o1
  have z2 := okE_size hg o2
  simp +contextual -implicitDefEqProofs only [eT, eB, eQ, eI, eG, txtQ, ho, if_true, bne, Bool.not_true, Bool.not_false, Bool.true_and, Bool.false_and, Bool.and_true, Bool.and_false, Bool.true_or, Bool.false_or, Bool.or_true, Bool.or_false, D.put, D.cells, D.size, D.sizeL, D.isAg, modeOf, noPtrs, List.length_map, go_sem, ↓reduceIte, Nat.reduceEqDiff, Nat.reduceAdd, Nat.reduceLeDiff, Nat.reduceMul, Nat.reduceBEq, Nat.reduceBneDiff, Nat.reduceLT, Nat.reduceSub, Int.ofNat_lt, Int.natCast_nonneg]
  refine callQ_self (ds := [.pt (eQ q) 0]) (by rfl) (hc2 g0 hg q (okE_tree o1) (okE_tree o2) (by omega) (by omega)) ?_
  simp +contextual -implicitDefEqProofs only [eT, D.put, D.cells, D.size, D.sizeL, D.isAg, modeOf, noPtrs, List.length_map, go_sem, eI, eB, ↓reduceIte, Nat.reduceEqDiff, Nat.reduceAdd, Nat.reduceLeDiff, Nat.reduceMul, Nat.reduceBEq, Nat.reduceBneDiff, Nat.reduceLT, Nat.reduceSub, Int.ofNat_lt, Int.natCast_nonneg]

def k_imEquationText (f1 f2 : Nat) : RC := (.seq (.reg false [⟨none, .box 2 2 (.t 0)⟩, ⟨none, .box 3 6 (.t 1)⟩, ⟨none, .mv 4 (.c (.sc (.string ⟨#[]⟩)))⟩]) ((.seq ((.seq (.reg false [⟨none, .ld 5 true 2 (.t 2)⟩, ⟨none, .ld 6 true 6 (.t 3)⟩, ⟨none, .call (some 7) f1 [(.t 5), (.t 6)]⟩, ⟨none, .un 8 .not (.t 7)⟩]) (.cond (.t 8) ((.seq (.reg false [⟨none, .mv 4 (.c (.sc (.string ⟨#[]⟩)))⟩]) (.ret))) (.skip)))) ((.seq (.reg false [⟨none, .ld 9 true 6 (.t 3)⟩, ⟨none, .call (some 10) f2 [(.t 9)]⟩, ⟨none, .mv 4 (.t 10)⟩]) (.ret))))))
def K_imEquationText (P : Program) (fno : Nat) : Prop := ∀ (g0 : Int × Int) (q : Eq2), AF P fno [eG g0, eQ q] (.own (eT (txtQ g0 q)))
theorem a_imEquationText {P : Program} (hm : P.follows .mixedOrders = true) {g f1 f2 : Nat} (hr : resF P g = some (11, k_imEquationText f1 f2, [.t 4])) (hc1 : K_imValidEquation P f1) (hc2 : K_equationText P f2) : K_imEquationText P g := by
 intro g0 q
 refine af_of_res hr hm rfl fun hb => ?_
 simp +contextual -implicitDefEqProofs only [k_imEquationText, eQ, eI, eG, D.put, D.cells, D.size, D.sizeL, D.isAg, modeOf, noPtrs, List.length_map, go_sem, eB, ↓reduceIte, Nat.reduceEqDiff, Nat.reduceAdd, Nat.reduceLeDiff, Nat.reduceMul, Nat.reduceBEq, Nat.reduceBneDiff, Nat.reduceLT, Nat.reduceSub, Int.ofNat_lt, Int.natCast_nonneg]
 refine callQ_self (ds := [eG g0, eQ q]) (by rfl) (hc1 g0 q) ?_
 cases ho : okQ g0 q
 ·simp +contextual -implicitDefEqProofs only [eT, eB, txtQ, ho, bne, Bool.not_true, Bool.not_false, Bool.true_and, Bool.false_and, Bool.and_true, Bool.and_false, Bool.true_or, Bool.false_or, Bool.or_true, Bool.or_false, D.put, D.cells, D.size, D.sizeL, D.isAg, modeOf, noPtrs, List.length_map, go_sem, eI, ↓reduceIte, Nat.reduceEqDiff, Nat.reduceAdd, Nat.reduceLeDiff, Nat.reduceMul, Nat.reduceBEq, Nat.reduceBneDiff, Nat.reduceLT, Nat.reduceSub, Int.ofNat_lt, Int.natCast_nonneg]
 ·obtain ⟨hg, o1, o2⟩ := okQ_and ho
  have z1 := okE_size hg o1
  have z2 := okE_size hg o2
  simp +contextual -implicitDefEqProofs only [eT, eB, eQ, eI, eG, txtQ, ho, if_true, bne, Bool.not_true, Bool.not_false, Bool.true_and, Bool.false_and, Bool.and_true, Bool.and_false, Bool.true_or, Bool.false_or, Bool.or_true, Bool.or_false, D.put, D.cells, D.size, D.sizeL, D.isAg, modeOf, noPtrs, List.length_map, go_sem, ↓reduceIte, Nat.reduceEqDiff, Nat.reduceAdd, Nat.reduceLeDiff, Nat.reduceMul, Nat.reduceBEq, Nat.reduceBneDiff, Nat.reduceLT, Nat.reduceSub, Int.ofNat_lt, Int.natCast_nonneg]
  refine callQ_self (ds := [eQ q]) (by rfl) (hc2 g0 hg q (okE_tree o1) (okE_tree o2) (by omega) (by omega)) ?_
  simp +contextual -implicitDefEqProofs only [eT, D.put, D.cells, D.size, D.sizeL, D.isAg, modeOf, noPtrs, List.length_map, go_sem, eI, eB, ↓reduceIte, Nat.reduceEqDiff, Nat.reduceAdd, Nat.reduceLeDiff, Nat.reduceMul, Nat.reduceBEq, Nat.reduceBneDiff, Nat.reduceLT, Nat.reduceSub, Int.ofNat_lt, Int.natCast_nonneg]
end Go.Ax
