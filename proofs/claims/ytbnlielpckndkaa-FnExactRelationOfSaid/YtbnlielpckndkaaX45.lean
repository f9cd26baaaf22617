/- Contracts of functions of the seat, proved over the engine. No condition. -/
import Derived.Test.YtbnlielpckndkaaX42
import Derived.Test.YtbnlielpckndkaaX10
set_option linter.unusedSimpArgs false
set_option linter.unusedVariables false
set_option linter.unnecessarySimpa false
namespace Go.Ax
set_option linter.unusedSimpArgs false
set_option maxRecDepth 20000
set_option maxHeartbeats 4000000

def relS (z : Option Bool) (m : Mo) (e : Ex) : SL (SL Bool) × Int := if okMo m = true ∧ okE m.1 e = true then (rTab m.2.1.toNat (relE m e), 0) else ((z, []), 1)
theorem relS_eq {z : Option Bool} {m : Mo} {n : Nat} {e : Ex} (h1 : okMo m = true) (h2 : okE m.1 e = true) (hM : MoOk m n) : relS z m e = (rTab n (relE m e), 0) := by
  have hn : m.2.1.toNat = n := by rw [hM.pts]; rfl
  simp [relS, h1, h2, hn]
theorem rTab_fst {n : Nat} {R : Rel} : (rTab n R).1 = some false := rfl
theorem rTab_map {n : Nat} {R : Rel} : (rTab n R).2.map (eS 1 eB) = rD n R := (D.ls.inj (rD_eq (n := n) (R := R))).2.2
theorem okE_tree {g : Int × Int} {e : Ex} (h : okE g e = true) : treeE g e = true := by
  simp only [okE, Bool.and_eq_true] at h
  exact h.2.2

def k_spRelationOf (f1 f2 f3 : Nat) : RC :=
 (.seq
  (.reg false [⟨none, .box 2 5 (.t 0)⟩,
    ⟨none, .box 3 3 (.t 1)⟩,
    ⟨none, .mv 4 (.c (.ls (some true) 1 []))⟩,
    ⟨none, .mv 5 (.c (.sc (.int .i64 0)))⟩])
  ((.seq
   ((.seq
    (.reg false [⟨none, .call (some 6) f1 [(.t 2)]⟩,
      ⟨none, .un 7 .not (.t 6)⟩,
      ⟨none, .mv 8 (.t 7)⟩,
      ⟨some (8, false), .fa 9 0 (.t 2)⟩,
      ⟨some (8, false), .ld 10 true 2 (.t 9)⟩,
      ⟨some (8, false), .call (some 11) f2 [(.t 10), (.t 3)]⟩,
      ⟨some (8, false), .un 12 .not (.t 11)⟩,
      ⟨none, .pick 13 (.t 8) (.c (.sc (.bool true))) (.t 12)⟩])
    (.cond (.t 13)
     ((.seq
      (.reg false [⟨none, .bs 14 1 (.ls (some true) 1 []) 0 []⟩,
        ⟨none, .mv 4 (.t 14)⟩,
        ⟨none, .mv 5 (.c (.sc (.int .i64 1)))⟩])
      (.ret)))
     (.skip))))
   ((.seq
    (.reg false [⟨none, .call (some 15) f3 [(.t 2), (.t 3)]⟩,
      ⟨none, .mv 4 (.t 15)⟩,
      ⟨none, .mv 5 (.c (.sc (.int .i64 0)))⟩])
    (.ret))))))
def K_spRelationOf (P : Program) (fno : Nat) : Prop := ∀ (m : Mo) (e : Ex), AF P fno [eM m, eE e] (.tup ([.own (eS 1 (eS 1 eB) (relS (some false) m e).1), .own (eI (relS (some false) m e).2)]))
theorem a_spRelationOf {P : Program} (hm : P.follows .mixedOrders = true) {g f1 f2 f3 : Nat} (hr : resF P g = some (16, k_spRelationOf f1 f2 f3, [.t 4, .t 5])) (hc1 : K_l05Ok P f1) (hc2 : K_l01Ok P f2) (hc3 : K_l05Rel P f3) : K_spRelationOf P g := by
  intro m e
  obtain ⟨k, v, nn, ks, rfl⟩ := Ex.ex e
  rw [eE_mk]
  refine af_of_res hr hm rfl fun hb => ?_
  simp +contextual -implicitDefEqProofs only [k_spRelationOf, eM, eS, eI, eG, eB, eQ, D.at, D.size, D.sizeL, D.sub, Int.cast_ofNat_Int, Int.reduceLT, Int.reduceLE, Int.le_refl, Int.reduceBEq, Int.reduceEq, beq_self_eq_true, Int.reduceToNat, D.isAg, List.map_nil, List.map_cons, List.length_cons, List.length_nil, bne, Bool.not_true, Bool.not_false, Bool.true_and, Bool.false_and, Bool.and_true, Bool.and_false, Bool.true_or, Bool.false_or, Bool.or_true, Bool.or_false, go_sem, eI, eB, ↓reduceIte, Nat.reduceEqDiff, Nat.reduceAdd, Nat.reduceLeDiff, Nat.reduceMul, Nat.reduceBEq, Nat.reduceBneDiff, Nat.reduceLT, Nat.reduceSub, decide_true, decide_false, and_self, true_and, and_true, false_and, and_false, not_true_eq_false, not_false_eq_true, false_implies, true_implies, implies_true, ge_iff_le, Bool.false_eq_true, List.cons_append, List.nil_append, Int.ofNat_lt, List.length_map, Int.natCast_nonneg]
  refine callQ_self (ds := [.pt (eM m) 0]) (by rfl) (hc1 m) ?_
  cases ho : okMo m
  · rw [show relS (some false) m (.mk k v nn ks) = (((some false), []), 1) by simp [relS, ho]]
    simp +contextual -implicitDefEqProofs only [eM, eS, eI, eG, eB, eQ, D.at, D.size, D.sizeL, D.sub, Int.cast_ofNat_Int, Int.reduceLT, Int.reduceLE, Int.le_refl, Int.reduceBEq, Int.reduceEq, beq_self_eq_true, Int.reduceToNat, D.isAg, List.map_nil, List.map_cons, List.length_cons, List.length_nil, bne, Bool.not_true, Bool.not_false, Bool.true_and, Bool.false_and, Bool.and_true, Bool.and_false, Bool.true_or, Bool.false_or, Bool.or_true, Bool.or_false, go_sem, eI, eB, ↓reduceIte, Nat.reduceEqDiff, Nat.reduceAdd, Nat.reduceLeDiff, Nat.reduceMul, Nat.reduceBEq, Nat.reduceBneDiff, Nat.reduceLT, Nat.reduceSub, decide_true, decide_false, and_self, true_and, and_true, false_and, and_false, not_true_eq_false, not_false_eq_true, false_implies, true_implies, implies_true, ge_iff_le, Bool.false_eq_true, List.cons_append, List.nil_append, Int.ofNat_lt, List.length_map, Int.natCast_nonneg]
  obtain ⟨n, hM⟩ := okMo_ok ho
  have hg := hM.g
  have hx := hc2 m.1 (.mk k v nn ks)
  rw [eE_mk] at hx
  simp +contextual -implicitDefEqProofs only [eM, eS, eI, eG, eB, eQ, D.at, D.size, D.sizeL, D.sub, Int.cast_ofNat_Int, Int.reduceLT, Int.reduceLE, Int.le_refl, Int.reduceBEq, Int.reduceEq, beq_self_eq_true, Int.reduceToNat, D.isAg, List.map_nil, List.map_cons, List.length_cons, List.length_nil, bne, Bool.not_true, Bool.not_false, Bool.true_and, Bool.false_and, Bool.and_true, Bool.and_false, Bool.true_or, Bool.false_or, Bool.or_true, Bool.or_false, go_sem, eI, eB, ↓reduceIte, Nat.reduceEqDiff, Nat.reduceAdd, Nat.reduceLeDiff, Nat.reduceMul, Nat.reduceBEq, Nat.reduceBneDiff, Nat.reduceLT, Nat.reduceSub, decide_true, decide_false, and_self, true_and, and_true, false_and, and_false, not_true_eq_false, not_false_eq_true, false_implies, true_implies, implies_true, ge_iff_le, Bool.false_eq_true, List.cons_append, List.nil_append, Int.ofNat_lt, List.length_map, Int.natCast_nonneg]
  refine callQ_self (ds := [eG m.1, .pt (.ag [.sc (.int .i64 k), .sc (.int .i64 v), .ls nn 3 (ks.map eE)]) 0]) (by rfl) hx ?_
  cases hq : okE m.1 (.mk k v nn ks)
  · rw [show relS (some false) m (.mk k v nn ks) = (((some false), []), 1) by simp [relS, hq]]
    simp +contextual -implicitDefEqProofs only [eM, eS, eI, eG, eB, eQ, D.at, D.size, D.sizeL, D.sub, Int.cast_ofNat_Int, Int.reduceLT, Int.reduceLE, Int.le_refl, Int.reduceBEq, Int.reduceEq, beq_self_eq_true, Int.reduceToNat, D.isAg, List.map_nil, List.map_cons, List.length_cons, List.length_nil, bne, Bool.not_true, Bool.not_false, Bool.true_and, Bool.false_and, Bool.and_true, Bool.and_false, Bool.true_or, Bool.false_or, Bool.or_true, Bool.or_false, hg, go_sem, eI, eB, ↓reduceIte, Nat.reduceEqDiff, Nat.reduceAdd, Nat.reduceLeDiff, Nat.reduceMul, Nat.reduceBEq, Nat.reduceBneDiff, Nat.reduceLT, Nat.reduceSub, decide_true, decide_false, and_self, true_and, and_true, false_and, and_false, not_true_eq_false, not_false_eq_true, false_implies, true_implies, implies_true, ge_iff_le, Bool.false_eq_true, List.cons_append, List.nil_append, Int.ofNat_lt, List.length_map, Int.natCast_nonneg]
  rw [relS_eq ho hq hM]
  have hr0 := hc3 m n (.mk k v nn ks) hM (okE_tree hq)
  rw [eE_mk] at hr0
  simp +contextual -implicitDefEqProofs only [eM, eS, eI, eG, eB, eQ, D.at, D.size, D.sizeL, D.sub, Int.cast_ofNat_Int, Int.reduceLT, Int.reduceLE, Int.le_refl, Int.reduceBEq, Int.reduceEq, beq_self_eq_true, Int.reduceToNat, D.isAg, List.map_nil, List.map_cons, List.length_cons, List.length_nil, bne, Bool.not_true, Bool.not_false, Bool.true_and, Bool.false_and, Bool.and_true, Bool.and_false, Bool.true_or, Bool.false_or, Bool.or_true, Bool.or_false, rTab_fst, rTab_map, hg, go_sem, eI, eB, ↓reduceIte, Nat.reduceEqDiff, Nat.reduceAdd, Nat.reduceLeDiff, Nat.reduceMul, Nat.reduceBEq, Nat.reduceBneDiff, Nat.reduceLT, Nat.reduceSub, decide_true, decide_false, and_self, true_and, and_true, false_and, and_false, not_true_eq_false, not_false_eq_true, false_implies, true_implies, implies_true, ge_iff_le, Bool.false_eq_true, List.cons_append, List.nil_append, Int.ofNat_lt, List.length_map, Int.natCast_nonneg]
  refine callQ_self (ds := [.pt (eM m) 0, .pt (.ag [.sc (.int .i64 k), .sc (.int .i64 v), .ls nn 3 (ks.map eE)]) 0]) (by rfl) hr0 ?_
  simp +contextual -implicitDefEqProofs only [eM, eS, eI, eG, eB, eQ, D.at, D.size, D.sizeL, D.sub, Int.cast_ofNat_Int, Int.reduceLT, Int.reduceLE, Int.le_refl, Int.reduceBEq, Int.reduceEq, beq_self_eq_true, Int.reduceToNat, D.isAg, List.map_nil, List.map_cons, List.length_cons, List.length_nil, bne, Bool.not_true, Bool.not_false, Bool.true_and, Bool.false_and, Bool.and_true, Bool.and_false, Bool.true_or, Bool.false_or, Bool.or_true, Bool.or_false, rTab_fst, rTab_map, go_sem, eI, eB, ↓reduceIte, Nat.reduceEqDiff, Nat.reduceAdd, Nat.reduceLeDiff, Nat.reduceMul, Nat.reduceBEq, Nat.reduceBneDiff, Nat.reduceLT, Nat.reduceSub, decide_true, decide_false, and_self, true_and, and_true, false_and, and_false, not_true_eq_false, not_false_eq_true, false_implies, true_implies, implies_true, ge_iff_le, Bool.false_eq_true, List.cons_append, List.nil_append, Int.ofNat_lt, List.length_map, Int.natCast_nonneg]

def k_imRelationOf (f1 f2 f3 : Nat) : RC :=
 (.seq
  (.reg false [⟨none, .box 2 5 (.t 0)⟩,
    ⟨none, .box 3 3 (.t 1)⟩,
    ⟨none, .mv 4 (.c (.ls (some true) 1 []))⟩,
    ⟨none, .mv 5 (.c (.sc (.int .i64 0)))⟩])
  ((.seq
   ((.seq
    (.reg false [⟨none, .ld 6 true 5 (.t 2)⟩,
      ⟨none, .call (some 7) f1 [(.t 6)]⟩,
      ⟨none, .un 8 .not (.t 7)⟩,
      ⟨none, .mv 9 (.t 8)⟩,
      ⟨some (9, false), .fa 10 0 (.t 2)⟩,
      ⟨some (9, false), .ld 11 true 2 (.t 10)⟩,
      ⟨some (9, false), .ld 12 true 3 (.t 3)⟩,
      ⟨some (9, false), .call (some 13) f2 [(.t 11), (.t 12)]⟩,
      ⟨some (9, false), .un 14 .not (.t 13)⟩,
      ⟨none, .pick 15 (.t 9) (.c (.sc (.bool true))) (.t 14)⟩])
    (.cond (.t 15)
     ((.seq
      (.reg false [⟨none, .mv 4 (.c (.ls (some true) 1 []))⟩,
        ⟨none, .mv 5 (.c (.sc (.int .i64 1)))⟩])
      (.ret)))
     (.skip))))
   ((.seq
    (.reg false [⟨none, .ld 16 true 5 (.t 2)⟩,
      ⟨none, .ld 17 true 3 (.t 3)⟩,
      ⟨none, .call (some 18) f3 [(.t 16), (.t 17)]⟩,
      ⟨none, .mv 4 (.t 18)⟩,
      ⟨none, .mv 5 (.c (.sc (.int .i64 0)))⟩])
    (.ret))))))
def K_imRelationOf (P : Program) (fno : Nat) : Prop := ∀ (m : Mo) (e : Ex), AF P fno [eM m, eE e] (.tup ([.own (eS 1 (eS 1 eB) (relS (some true) m e).1), .own (eI (relS (some true) m e).2)]))
theorem a_imRelationOf {P : Program} (hm : P.follows .mixedOrders = true) {g f1 f2 f3 : Nat} (hr : resF P g = some (19, k_imRelationOf f1 f2 f3, [.t 4, .t 5])) (hc1 : K_validModel P f1) (hc2 : K_isExpr P f2) (hc3 : K_relation P f3) : K_imRelationOf P g := by
  intro m e
  obtain ⟨k, v, nn, ks, rfl⟩ := Ex.ex e
  rw [eE_mk]
  refine af_of_res hr hm rfl fun hb => ?_
  simp +contextual -implicitDefEqProofs only [k_imRelationOf, eM, eS, eI, eG, eB, eQ, D.at, D.size, D.sizeL, D.sub, Int.cast_ofNat_Int, Int.reduceLT, Int.reduceLE, Int.le_refl, Int.reduceBEq, Int.reduceEq, beq_self_eq_true, Int.reduceToNat, D.isAg, List.map_nil, List.map_cons, List.length_cons, List.length_nil, bne, Bool.not_true, Bool.not_false, Bool.true_and, Bool.false_and, Bool.and_true, Bool.and_false, Bool.true_or, Bool.false_or, Bool.or_true, Bool.or_false, go_sem, eI, eB, ↓reduceIte, Nat.reduceEqDiff, Nat.reduceAdd, Nat.reduceLeDiff, Nat.reduceMul, Nat.reduceBEq, Nat.reduceBneDiff, Nat.reduceLT, Nat.reduceSub, decide_true, decide_false, and_self, true_and, and_true, false_and, and_false, not_true_eq_false, not_false_eq_true, false_implies, true_implies, implies_true, ge_iff_le, Bool.false_eq_true, List.cons_append, List.nil_append, Int.ofNat_lt, List.length_map, Int.natCast_nonneg]
  refine callQ_self (ds := [eM m]) (by rfl) (hc1 m) ?_
  cases ho : okMo m
  · rw [show relS (some true) m (.mk k v nn ks) = (((some true), []), 1) by simp [relS, ho]]
    simp +contextual -implicitDefEqProofs only [eM, eS, eI, eG, eB, eQ, D.at, D.size, D.sizeL, D.sub, Int.cast_ofNat_Int, Int.reduceLT, Int.reduceLE, Int.le_refl, Int.reduceBEq, Int.reduceEq, beq_self_eq_true, Int.reduceToNat, D.isAg, List.map_nil, List.map_cons, List.length_cons, List.length_nil, bne, Bool.not_true, Bool.not_false, Bool.true_and, Bool.false_and, Bool.and_true, Bool.and_false, Bool.true_or, Bool.false_or, Bool.or_true, Bool.or_false, go_sem, eI, eB, ↓reduceIte, Nat.reduceEqDiff, Nat.reduceAdd, Nat.reduceLeDiff, Nat.reduceMul, Nat.reduceBEq, Nat.reduceBneDiff, Nat.reduceLT, Nat.reduceSub, decide_true, decide_false, and_self, true_and, and_true, false_and, and_false, not_true_eq_false, not_false_eq_true, false_implies, true_implies, implies_true, ge_iff_le, Bool.false_eq_true, List.cons_append, List.nil_append, Int.ofNat_lt, List.length_map, Int.natCast_nonneg]
  obtain ⟨n, hM⟩ := okMo_ok ho
  have hg := hM.g
  have hx := hc2 m.1 (.mk k v nn ks)
  rw [eE_mk] at hx
  simp +contextual -implicitDefEqProofs only [eM, eS, eI, eG, eB, eQ, D.at, D.size, D.sizeL, D.sub, Int.cast_ofNat_Int, Int.reduceLT, Int.reduceLE, Int.le_refl, Int.reduceBEq, Int.reduceEq, beq_self_eq_true, Int.reduceToNat, D.isAg, List.map_nil, List.map_cons, List.length_cons, List.length_nil, bne, Bool.not_true, Bool.not_false, Bool.true_and, Bool.false_and, Bool.and_true, Bool.and_false, Bool.true_or, Bool.false_or, Bool.or_true, Bool.or_false, go_sem, eI, eB, ↓reduceIte, Nat.reduceEqDiff, Nat.reduceAdd, Nat.reduceLeDiff, Nat.reduceMul, Nat.reduceBEq, Nat.reduceBneDiff, Nat.reduceLT, Nat.reduceSub, decide_true, decide_false, and_self, true_and, and_true, false_and, and_false, not_true_eq_false, not_false_eq_true, false_implies, true_implies, implies_true, ge_iff_le, Bool.false_eq_true, List.cons_append, List.nil_append, Int.ofNat_lt, List.length_map, Int.natCast_nonneg]
  refine callQ_self (ds := [eG m.1, .ag [.sc (.int .i64 k), .sc (.int .i64 v), .ls nn 3 (ks.map eE)]]) (by rfl) hx ?_
  cases hq : okE m.1 (.mk k v nn ks)
  · rw [show relS (some true) m (.mk k v nn ks) = (((some true), []), 1) by simp [relS, hq]]
    simp +contextual -implicitDefEqProofs only [eM, eS, eI, eG, eB, eQ, D.at, D.size, D.sizeL, D.sub, Int.cast_ofNat_Int, Int.reduceLT, Int.reduceLE, Int.le_refl, Int.reduceBEq, Int.reduceEq, beq_self_eq_true, Int.reduceToNat, D.isAg, List.map_nil, List.map_cons, List.length_cons, List.length_nil, bne, Bool.not_true, Bool.not_false, Bool.true_and, Bool.false_and, Bool.and_true, Bool.and_false, Bool.true_or, Bool.false_or, Bool.or_true, Bool.or_false, go_sem, eI, eB, ↓reduceIte, Nat.reduceEqDiff, Nat.reduceAdd, Nat.reduceLeDiff, Nat.reduceMul, Nat.reduceBEq, Nat.reduceBneDiff, Nat.reduceLT, Nat.reduceSub, decide_true, decide_false, and_self, true_and, and_true, false_and, and_false, not_true_eq_false, not_false_eq_true, false_implies, true_implies, implies_true, ge_iff_le, Bool.false_eq_true, List.cons_append, List.nil_append, Int.ofNat_lt, List.length_map, Int.natCast_nonneg]
  rw [relS_eq ho hq hM]
  have hr0 := hc3 m n (.mk k v nn ks) hM (okE_tree hq)
  rw [eE_mk] at hr0
  simp +contextual -implicitDefEqProofs only [eM, eS, eI, eG, eB, eQ, D.at, D.size, D.sizeL, D.sub, Int.cast_ofNat_Int, Int.reduceLT, Int.reduceLE, Int.le_refl, Int.reduceBEq, Int.reduceEq, beq_self_eq_true, Int.reduceToNat, D.isAg, List.map_nil, List.map_cons, List.length_cons, List.length_nil, bne, Bool.not_true, Bool.not_false, Bool.true_and, Bool.false_and, Bool.and_true, Bool.and_false, Bool.true_or, Bool.false_or, Bool.or_true, Bool.or_false, rTab_fst, rTab_map, go_sem, eI, eB, ↓reduceIte, Nat.reduceEqDiff, Nat.reduceAdd, Nat.reduceLeDiff, Nat.reduceMul, Nat.reduceBEq, Nat.reduceBneDiff, Nat.reduceLT, Nat.reduceSub, decide_true, decide_false, and_self, true_and, and_true, false_and, and_false, not_true_eq_false, not_false_eq_true, false_implies, true_implies, implies_true, ge_iff_le, Bool.false_eq_true, List.cons_append, List.nil_append, Int.ofNat_lt, List.length_map, Int.natCast_nonneg]
  refine callQ_self (ds := [eM m, .ag [.sc (.int .i64 k), .sc (.int .i64 v), .ls nn 3 (ks.map eE)]]) (by rfl) hr0 ?_
  simp +contextual -implicitDefEqProofs only [eM, eS, eI, eG, eB, eQ, D.at, D.size, D.sizeL, D.sub, Int.cast_ofNat_Int, Int.reduceLT, Int.reduceLE, Int.le_refl, Int.reduceBEq, Int.reduceEq, beq_self_eq_true, Int.reduceToNat, D.isAg, List.map_nil, List.map_cons, List.length_cons, List.length_nil, bne, Bool.not_true, Bool.not_false, Bool.true_and, Bool.false_and, Bool.and_true, Bool.and_false, Bool.true_or, Bool.false_or, Bool.or_true, Bool.or_false, rTab_fst, rTab_map, go_sem, eI, eB, ↓reduceIte, Nat.reduceEqDiff, Nat.reduceAdd, Nat.reduceLeDiff, Nat.reduceMul, Nat.reduceBEq, Nat.reduceBneDiff, Nat.reduceLT, Nat.reduceSub, decide_true, decide_false, and_self, true_and, and_true, false_and, and_false, not_true_eq_false, not_false_eq_true, false_implies, true_implies, implies_true, ge_iff_le, Bool.false_eq_true, List.cons_append, List.nil_append, Int.ofNat_lt, List.length_map, Int.natCast_nonneg]
end Go.Ax
