/- Contracts of functions of the seat, proved over the engine. No condition. -/
import Derived.Test.YtbnlielpckndkaaX42
import Derived.Test.YtbnlielpckndkaaX10
import Derived.Test.YtbnlielpckndkaaEnG
set_option linter.unusedSimpArgs false
set_option linter.unusedVariables false
set_option linter.unnecessarySimpa false
namespace Go.Ax
set_option linter.unusedSimpArgs false
set_option maxRecDepth 20000
set_option maxHeartbeats 4000000
abbrev qRow (x y : SL Bool) : Bool := eqL (fun x y => x == y) x.2 y.2
def eqT (n : Nat) (A B : Rel) : Bool := eqL qRow (rTab n A).2 (rTab n B).2

def k_l05SameRows (f1 : Nat) : RC :=
 (.seq
  (.reg false [⟨none, .mv 4 (.c (.sc (.bool false)))⟩])
  ((.seq
   ((.seq
    (.reg false [⟨none, .mv 6 (.t 0)⟩,
      ⟨none, .len 7 (.t 6)⟩,
      ⟨none, .mv 8 (.t 1)⟩,
      ⟨none, .len 9 (.t 8)⟩,
      ⟨none, .bin 10 .neq (.t 7) (.t 9)⟩])
    (.cond (.t 10)
     ((.seq
      (.reg false [⟨none, .mv 4 (.c (.sc (.bool false)))⟩])
      (.ret)))
     (.skip))))
   ((.seq
    ((.seq
     (.reg false [⟨none, .mv 5 (.c (.sc (.int .i64 0)))⟩])
     (.blk 0
      (.loop
       ((.seq
        ((.seq
         (.reg false [⟨none, .mv 11 (.t 5)⟩,
           ⟨none, .mv 12 (.t 0)⟩,
           ⟨none, .len 13 (.t 12)⟩,
           ⟨none, .bin 14 .lss (.t 11) (.t 13)⟩])
         (.cond (.t 14)
          (.skip)
          (.exit 0))))
        ((.seq
         (.blk 1
          ((.seq
           (.reg true [⟨none, .mv 17 (.t 0)⟩,
             ⟨none, .mv 18 (.t 5)⟩,
             ⟨none, .ia 19 1 (.t 17) (.t 18)⟩,
             ⟨none, .ld 20 false 1 (.t 19)⟩,
             ⟨none, .mv 21 (.t 1)⟩,
             ⟨none, .mv 22 (.t 5)⟩,
             ⟨none, .ia 23 1 (.t 21) (.t 22)⟩,
             ⟨none, .ld 24 false 1 (.t 23)⟩,
             ⟨none, .call (some 25) f1 [(.t 20), (.t 24)]⟩,
             ⟨none, .un 26 .not (.t 25)⟩])
           (.cond (.t 26)
            ((.seq
             (.reg false [⟨none, .mv 4 (.c (.sc (.bool false)))⟩])
             (.ret)))
            (.skip)))))
         (.reg false [⟨none, .mv 15 (.t 5)⟩,
           ⟨none, .bin 16 .add (.t 15) (.c (.sc (.int .i64 1)))⟩,
           ⟨none, .mv 5 (.t 16)⟩])))))))))
    ((.seq
     (.reg false [⟨none, .mv 4 (.c (.sc (.bool true)))⟩])
     (.ret))))))))
def K_l05SameRows (P : Program) (fno : Nat) : Prop := ∀ (a b : SL (SL Bool)), AF P fno [eS 1 (eS 1 eB) a, eS 1 (eS 1 eB) b] (.own (eB (eqL qRow a.2 b.2)))
theorem a_l05SameRows {P : Program} (hm : P.follows .mixedOrders = true) {g f1 : Nat} (hr : resF P g = some (27, k_l05SameRows f1, [.t 4])) (hc1 : resF P f1 = some (26, cEqB, [.t 4])) : K_l05SameRows P g := by
  intro a b
  exact af_eqC hm (encS eB 1) (show resF P g = some (27, cEqC f1 1 false, [.t 4]) from hr) qRow a b fun x _ y _ => af_eqB hm hc1 x y

def k_sameRowsB (f1 f2 : Nat) : RC :=
 (.seq
  (.reg false [⟨none, .mv 4 (.c (.sc (.bool false)))⟩])
  ((.seq
   (.reg false [⟨none, .mv 5 (.t 0)⟩,
     ⟨none, .mv 6 (.t 1)⟩,
     ⟨none, .call (some 7) f1 [(.t 5), (.t 6), (.c (.sc (.func (.func f2) #[] #[])))]⟩,
     ⟨none, .mv 4 (.t 7)⟩])
   (.ret))))
def K_sameRowsB (P : Program) (fno : Nat) : Prop := ∀ (a b : SL (SL Bool)), AF P fno [eS 1 (eS 1 eB) a, eS 1 (eS 1 eB) b] (.own (eB (eqL qRow a.2 b.2)))
theorem a_sameRowsB {P : Program} (hm : P.follows .mixedOrders = true) {g f1 f2 : Nat} (hr : resF P g = some (8, k_sameRowsB f1 f2, [.t 4])) (hc1 : resF P f1 = some (32, cEfS 1, [.t 6])) (hc2 : resF P f2 = some (26, cSeB, [.t 4])) : K_sameRowsB P g := by
  intro a b
  refine af_of_res hr hm rfl fun hb => ?_
  simp +contextual -implicitDefEqProofs only [k_sameRowsB, go_sem, eI, eB, ↓reduceIte, Nat.reduceEqDiff, Nat.reduceAdd, Nat.reduceLeDiff, Nat.reduceMul, Nat.reduceBEq, Nat.reduceBneDiff, Nat.reduceLT, Nat.reduceSub, decide_true, decide_false, and_self, true_and, and_true, false_and, and_false, not_true_eq_false, not_false_eq_true, false_implies, true_implies, implies_true, ge_iff_le, Bool.false_eq_true, List.cons_append, List.nil_append, Int.ofNat_lt, List.length_map, Int.natCast_nonneg]
  refine callQ_self (ds := [eS 1 (eS 1 eB) a, eS 1 (eS 1 eB) b, .sc (.func (.func f2) #[] #[])]) (by rfl) (af_efS hm (encS eB 1) hc1 qRow a b fun x _ y _ => af_seB hm hc2 x y) ?_
  simp +contextual -implicitDefEqProofs only [go_sem, eI, eB, ↓reduceIte, Nat.reduceEqDiff, Nat.reduceAdd, Nat.reduceLeDiff, Nat.reduceMul, Nat.reduceBEq, Nat.reduceBneDiff, Nat.reduceLT, Nat.reduceSub, decide_true, decide_false, and_self, true_and, and_true, false_and, and_false, not_true_eq_false, not_false_eq_true, false_implies, true_implies, implies_true, ge_iff_le, Bool.false_eq_true, List.cons_append, List.nil_append, Int.ofNat_lt, List.length_map, Int.natCast_nonneg]
theorem rows_D {P : Program} {f : Nat} (h : K_l05SameRows P f) {n : Nat} {A B : Rel} : AF P f [.ls (some false) 1 (rD n A), .ls (some false) 1 (rD n B)] (.own (eB (eqT n A B))) := by
  have := h (rTab n A) (rTab n B)
  rw [rD_eq, rD_eq] at this
  exact this
theorem rowsI_D {P : Program} {f : Nat} (h : K_sameRowsB P f) {n : Nat} {A B : Rel} : AF P f [.ls (some false) 1 (rD n A), .ls (some false) 1 (rD n B)] (.own (eB (eqT n A B))) := by
  have := h (rTab n A) (rTab n B)
  rw [rD_eq, rD_eq] at this
  exact this

def holdsR (m : Mo) (q : Eq2) : Bool × Int := if okMo m = true ∧ okQ m.1 q = true then (eqT m.2.1.toNat (relE m q.1) (relE m q.2), 0) else (false, 1)
theorem okQ_tree {g : Int × Int} {q : Eq2} (h : okQ g q = true) : treeE g q.1 = true ∧ treeE g q.2 = true := by
  simp only [okQ, okE, Bool.and_eq_true] at h
  exact ⟨h.2.1.2.2, h.2.2.2.2⟩
def k_spHoldsIn (f1 f2 f3 f4 : Nat) : RC :=
 (.seq
  (.reg false [⟨none, .box 2 5 (.t 0)⟩,
    ⟨none, .box 3 6 (.t 1)⟩,
    ⟨none, .mv 4 (.c (.sc (.bool false)))⟩,
    ⟨none, .mv 5 (.c (.sc (.int .i64 0)))⟩])
  ((.seq
   ((.seq
    (.reg false [⟨none, .call (some 6) f1 [(.t 2)]⟩,
      ⟨none, .un 7 .not (.t 6)⟩,
      ⟨none, .mv 8 (.t 7)⟩,
      ⟨some (8, false), .fa 9 0 (.t 2)⟩,
      ⟨some (8, false), .ld 10 true 2 (.t 9)⟩,
      ⟨some (8, false), .call (some 11) f2 [(.t 10), (.t 3)]⟩,
      ⟨some (8, false), .un 12 .not (.t 11)⟩,
      ⟨none, .pick 13 (.t 8) (.c (.sc (.bool true))) (.t 12)⟩])
    (.cond (.t 13)
     ((.seq
      (.reg false [⟨none, .mv 4 (.c (.sc (.bool false)))⟩,
        ⟨none, .mv 5 (.c (.sc (.int .i64 1)))⟩])
      (.ret)))
     (.skip))))
   ((.seq
    (.reg false [⟨none, .fa 14 0 (.t 3)⟩,
      ⟨none, .call (some 15) f3 [(.t 2), (.t 14)]⟩,
      ⟨none, .fa 16 3 (.t 3)⟩,
      ⟨none, .call (some 17) f3 [(.t 2), (.t 16)]⟩,
      ⟨none, .call (some 18) f4 [(.t 15), (.t 17)]⟩,
      ⟨none, .mv 4 (.t 18)⟩,
      ⟨none, .mv 5 (.c (.sc (.int .i64 0)))⟩])
    (.ret))))))
def K_spHoldsIn (P : Program) (fno : Nat) : Prop := ∀ (m : Mo) (q : Eq2), AF P fno [eM m, eQ q] (.tup ([.own (eB (holdsR m q).1), .own (eI (holdsR m q).2)]))
theorem a_spHoldsIn {P : Program} (hm : P.follows .mixedOrders = true) {g f1 f2 f3 f4 : Nat} (hr : resF P g = some (19, k_spHoldsIn f1 f2 f3 f4, [.t 4, .t 5])) (hc1 : K_l05Ok P f1) (hc2 : K_l04Equation P f2) (hc3 : K_l05Rel P f3) (hc4 : K_l05SameRows P f4) : K_spHoldsIn P g := by
  intro m q
  obtain ⟨a, b⟩ := q
  refine af_of_res hr hm rfl fun hb => ?_
  obtain ⟨ak, av, ann, aks, rfl⟩ := Ex.ex a
  obtain ⟨bk, bv, bnn, bks, rfl⟩ := Ex.ex b
  simp +contextual -implicitDefEqProofs only [k_spHoldsIn, eM, eS, eI, eG, eB, eQ, D.at, D.size, D.sizeL, D.sub, Int.cast_ofNat_Int, Int.reduceLT, Int.reduceLE, Int.le_refl, Int.reduceBEq, Int.reduceEq, beq_self_eq_true, Int.reduceToNat, D.isAg, List.map_nil, List.map_cons, List.length_cons, List.length_nil, bne, Bool.not_true, Bool.not_false, Bool.true_and, Bool.false_and, Bool.and_true, Bool.and_false, Bool.true_or, Bool.false_or, Bool.or_true, Bool.or_false, go_sem, eI, eB, ↓reduceIte, Nat.reduceEqDiff, Nat.reduceAdd, Nat.reduceLeDiff, Nat.reduceMul, Nat.reduceBEq, Nat.reduceBneDiff, Nat.reduceLT, Nat.reduceSub, decide_true, decide_false, and_self, true_and, and_true, false_and, and_false, not_true_eq_false, not_false_eq_true, false_implies, true_implies, implies_true, ge_iff_le, Bool.false_eq_true, List.cons_append, List.nil_append, Int.ofNat_lt, List.length_map, Int.natCast_nonneg]
  refine callQ_self (ds := [.pt (eM m) 0]) (by rfl) (hc1 m) ?_
  cases ho : okMo m
  · rw [show holdsR m (.mk ak av ann aks, .mk bk bv bnn bks) = (false, 1) by simp [holdsR, ho]]
    simp +contextual -implicitDefEqProofs only [eM, eS, eI, eG, eB, eQ, D.at, D.size, D.sizeL, D.sub, Int.cast_ofNat_Int, Int.reduceLT, Int.reduceLE, Int.le_refl, Int.reduceBEq, Int.reduceEq, beq_self_eq_true, Int.reduceToNat, D.isAg, List.map_nil, List.map_cons, List.length_cons, List.length_nil, bne, Bool.not_true, Bool.not_false, Bool.true_and, Bool.false_and, Bool.and_true, Bool.and_false, Bool.true_or, Bool.false_or, Bool.or_true, Bool.or_false, go_sem, eI, eB, ↓reduceIte, Nat.reduceEqDiff, Nat.reduceAdd, Nat.reduceLeDiff, Nat.reduceMul, Nat.reduceBEq, Nat.reduceBneDiff, Nat.reduceLT, Nat.reduceSub, decide_true, decide_false, and_self, true_and, and_true, false_and, and_false, not_true_eq_false, not_false_eq_true, false_implies, true_implies, implies_true, ge_iff_le, Bool.false_eq_true, List.cons_append, List.nil_append, Int.ofNat_lt, List.length_map, Int.natCast_nonneg]
  simp +contextual -implicitDefEqProofs only [eM, eS, eI, eG, eB, eQ, D.at, D.size, D.sizeL, D.sub, Int.cast_ofNat_Int, Int.reduceLT, Int.reduceLE, Int.le_refl, Int.reduceBEq, Int.reduceEq, beq_self_eq_true, Int.reduceToNat, D.isAg, List.map_nil, List.map_cons, List.length_cons, List.length_nil, bne, Bool.not_true, Bool.not_false, Bool.true_and, Bool.false_and, Bool.and_true, Bool.and_false, Bool.true_or, Bool.false_or, Bool.or_true, Bool.or_false, go_sem, eI, eB, ↓reduceIte, Nat.reduceEqDiff, Nat.reduceAdd, Nat.reduceLeDiff, Nat.reduceMul, Nat.reduceBEq, Nat.reduceBneDiff, Nat.reduceLT, Nat.reduceSub, decide_true, decide_false, and_self, true_and, and_true, false_and, and_false, not_true_eq_false, not_false_eq_true, false_implies, true_implies, implies_true, ge_iff_le, Bool.false_eq_true, List.cons_append, List.nil_append, Int.ofNat_lt, List.length_map, Int.natCast_nonneg]
  refine callQ_self (ds := [eG m.1, .pt (eQ (.mk ak av ann aks, .mk bk bv bnn bks)) 0]) (by rfl) (hc2 m.1 (.mk ak av ann aks, .mk bk bv bnn bks)) ?_
  cases hq : okQ m.1 (.mk ak av ann aks, .mk bk bv bnn bks)
  · rw [show holdsR m (.mk ak av ann aks, .mk bk bv bnn bks) = (false, 1) by simp [holdsR, hq]]
    simp +contextual -implicitDefEqProofs only [eM, eS, eI, eG, eB, eQ, D.at, D.size, D.sizeL, D.sub, Int.cast_ofNat_Int, Int.reduceLT, Int.reduceLE, Int.le_refl, Int.reduceBEq, Int.reduceEq, beq_self_eq_true, Int.reduceToNat, D.isAg, List.map_nil, List.map_cons, List.length_cons, List.length_nil, bne, Bool.not_true, Bool.not_false, Bool.true_and, Bool.false_and, Bool.and_true, Bool.and_false, Bool.true_or, Bool.false_or, Bool.or_true, Bool.or_false, go_sem, eI, eB, ↓reduceIte, Nat.reduceEqDiff, Nat.reduceAdd, Nat.reduceLeDiff, Nat.reduceMul, Nat.reduceBEq, Nat.reduceBneDiff, Nat.reduceLT, Nat.reduceSub, decide_true, decide_false, and_self, true_and, and_true, false_and, and_false, not_true_eq_false, not_false_eq_true, false_implies, true_implies, implies_true, ge_iff_le, Bool.false_eq_true, List.cons_append, List.nil_append, Int.ofNat_lt, List.length_map, Int.natCast_nonneg]
  obtain ⟨n, hM⟩ := okMo_ok ho
  have hT := okQ_tree hq
  have hn : m.2.1.toNat = n := by rw [hM.pts]; rfl
  rw [show holdsR m (.mk ak av ann aks, .mk bk bv bnn bks) = (eqT n (relE m (.mk ak av ann aks)) (relE m (.mk bk bv bnn bks)), 0) by simp [holdsR, ho, hq, hn]]
  simp +contextual -implicitDefEqProofs only [eM, eS, eI, eG, eB, eQ, D.at, D.size, D.sizeL, D.sub, Int.cast_ofNat_Int, Int.reduceLT, Int.reduceLE, Int.le_refl, Int.reduceBEq, Int.reduceEq, beq_self_eq_true, Int.reduceToNat, D.isAg, List.map_nil, List.map_cons, List.length_cons, List.length_nil, bne, Bool.not_true, Bool.not_false, Bool.true_and, Bool.false_and, Bool.and_true, Bool.and_false, Bool.true_or, Bool.false_or, Bool.or_true, Bool.or_false, go_sem, eI, eB, ↓reduceIte, Nat.reduceEqDiff, Nat.reduceAdd, Nat.reduceLeDiff, Nat.reduceMul, Nat.reduceBEq, Nat.reduceBneDiff, Nat.reduceLT, Nat.reduceSub, decide_true, decide_false, and_self, true_and, and_true, false_and, and_false, not_true_eq_false, not_false_eq_true, false_implies, true_implies, implies_true, ge_iff_le, Bool.false_eq_true, List.cons_append, List.nil_append, Int.ofNat_lt, List.length_map, Int.natCast_nonneg]
  have hr0 := hc3 m n (.mk ak av ann aks) hM hT.1
  rw [eE_mk] at hr0
  refine callQ_le (es := [.pt (eM m) 0, .pt (.ag [.sc (.int .i64 ak), .sc (.int .i64 av), .ls ann 3 (aks.map eE)]) 0]) rfl ⟨D.LeA.refl _, D.LeA.sub (sz := 3) (by show _ ≤ 6; omega) rfl (by omega) rfl, trivial⟩ hr0 ?_
  simp +contextual -implicitDefEqProofs only [eM, eS, eI, eG, eB, eQ, D.at, D.size, D.sizeL, D.sub, Int.cast_ofNat_Int, Int.reduceLT, Int.reduceLE, Int.le_refl, Int.reduceBEq, Int.reduceEq, beq_self_eq_true, Int.reduceToNat, D.isAg, List.map_nil, List.map_cons, List.length_cons, List.length_nil, bne, Bool.not_true, Bool.not_false, Bool.true_and, Bool.false_and, Bool.and_true, Bool.and_false, Bool.true_or, Bool.false_or, Bool.or_true, Bool.or_false, go_sem, eI, eB, ↓reduceIte, Nat.reduceEqDiff, Nat.reduceAdd, Nat.reduceLeDiff, Nat.reduceMul, Nat.reduceBEq, Nat.reduceBneDiff, Nat.reduceLT, Nat.reduceSub, decide_true, decide_false, and_self, true_and, and_true, false_and, and_false, not_true_eq_false, not_false_eq_true, false_implies, true_implies, implies_true, ge_iff_le, Bool.false_eq_true, List.cons_append, List.nil_append, Int.ofNat_lt, List.length_map, Int.natCast_nonneg]
  have hr3 := hc3 m n (.mk bk bv bnn bks) hM hT.2
  rw [eE_mk] at hr3
  refine callQ_le (es := [.pt (eM m) 0, .pt (.ag [.sc (.int .i64 bk), .sc (.int .i64 bv), .ls bnn 3 (bks.map eE)]) 0]) rfl ⟨D.LeA.refl _, D.LeA.sub (sz := 3) (by show _ ≤ 6; omega) rfl (by omega) rfl, trivial⟩ hr3 ?_
  simp +contextual -implicitDefEqProofs only [eM, eS, eI, eG, eB, eQ, D.at, D.size, D.sizeL, D.sub, Int.cast_ofNat_Int, Int.reduceLT, Int.reduceLE, Int.le_refl, Int.reduceBEq, Int.reduceEq, beq_self_eq_true, Int.reduceToNat, D.isAg, List.map_nil, List.map_cons, List.length_cons, List.length_nil, bne, Bool.not_true, Bool.not_false, Bool.true_and, Bool.false_and, Bool.and_true, Bool.and_false, Bool.true_or, Bool.false_or, Bool.or_true, Bool.or_false, go_sem, eI, eB, ↓reduceIte, Nat.reduceEqDiff, Nat.reduceAdd, Nat.reduceLeDiff, Nat.reduceMul, Nat.reduceBEq, Nat.reduceBneDiff, Nat.reduceLT, Nat.reduceSub, decide_true, decide_false, and_self, true_and, and_true, false_and, and_false, not_true_eq_false, not_false_eq_true, false_implies, true_implies, implies_true, ge_iff_le, Bool.false_eq_true, List.cons_append, List.nil_append, Int.ofNat_lt, List.length_map, Int.natCast_nonneg]
  refine callQ_self (ds := [.ls (some false) 1 (rD n (relE m (.mk ak av ann aks))), .ls (some false) 1 (rD n (relE m (.mk bk bv bnn bks)))]) (by rfl) (rows_D hc4) ?_
  simp +contextual -implicitDefEqProofs only [eM, eS, eI, eG, eB, eQ, D.at, D.size, D.sizeL, D.sub, Int.cast_ofNat_Int, Int.reduceLT, Int.reduceLE, Int.le_refl, Int.reduceBEq, Int.reduceEq, beq_self_eq_true, Int.reduceToNat, D.isAg, List.map_nil, List.map_cons, List.length_cons, List.length_nil, bne, Bool.not_true, Bool.not_false, Bool.true_and, Bool.false_and, Bool.and_true, Bool.and_false, Bool.true_or, Bool.false_or, Bool.or_true, Bool.or_false, go_sem, eI, eB, ↓reduceIte, Nat.reduceEqDiff, Nat.reduceAdd, Nat.reduceLeDiff, Nat.reduceMul, Nat.reduceBEq, Nat.reduceBneDiff, Nat.reduceLT, Nat.reduceSub, decide_true, decide_false, and_self, true_and, and_true, false_and, and_false, not_true_eq_false, not_false_eq_true, false_implies, true_implies, implies_true, ge_iff_le, Bool.false_eq_true, List.cons_append, List.nil_append, Int.ofNat_lt, List.length_map, Int.natCast_nonneg]

def k_imHoldsIn (f1 f2 f3 f4 : Nat) : RC :=
 (.seq
  (.reg false [⟨none, .box 2 5 (.t 0)⟩,
    ⟨none, .box 3 6 (.t 1)⟩,
    ⟨none, .mv 4 (.c (.sc (.bool false)))⟩,
    ⟨none, .mv 5 (.c (.sc (.int .i64 0)))⟩])
  ((.seq
   ((.seq
    (.reg false [⟨none, .ld 6 true 5 (.t 2)⟩,
      ⟨none, .call (some 7) f1 [(.t 6)]⟩,
      ⟨none, .un 8 .not (.t 7)⟩,
      ⟨none, .mv 9 (.t 8)⟩,
      ⟨some (9, false), .fa 10 0 (.t 2)⟩,
      ⟨some (9, false), .ld 11 true 2 (.t 10)⟩,
      ⟨some (9, false), .ld 12 true 6 (.t 3)⟩,
      ⟨some (9, false), .call (some 13) f2 [(.t 11), (.t 12)]⟩,
      ⟨some (9, false), .un 14 .not (.t 13)⟩,
      ⟨none, .pick 15 (.t 9) (.c (.sc (.bool true))) (.t 14)⟩])
    (.cond (.t 15)
     ((.seq
      (.reg false [⟨none, .mv 4 (.c (.sc (.bool false)))⟩,
        ⟨none, .mv 5 (.c (.sc (.int .i64 1)))⟩])
      (.ret)))
     (.skip))))
   ((.seq
    (.reg true [⟨none, .ld 16 true 5 (.t 2)⟩,
      ⟨none, .fa 17 0 (.t 3)⟩,
      ⟨none, .ld 18 true 3 (.t 17)⟩,
      ⟨none, .call (some 19) f3 [(.t 16), (.t 18)]⟩,
      ⟨none, .ld 20 true 5 (.t 2)⟩,
      ⟨none, .fa 21 3 (.t 3)⟩,
      ⟨none, .ld 22 true 3 (.t 21)⟩,
      ⟨none, .call (some 23) f3 [(.t 20), (.t 22)]⟩,
      ⟨none, .call (some 24) f4 [(.t 19), (.t 23)]⟩,
      ⟨none, .mv 4 (.t 24)⟩,
      ⟨none, .mv 5 (.c (.sc (.int .i64 0)))⟩])
    (.ret))))))
def K_imHoldsIn (P : Program) (fno : Nat) : Prop := ∀ (m : Mo) (q : Eq2), AF P fno [eM m, eQ q] (.tup ([.own (eB (holdsR m q).1), .own (eI (holdsR m q).2)]))
theorem a_imHoldsIn {P : Program} (hm : P.follows .mixedOrders = true) {g f1 f2 f3 f4 : Nat} (hr : resF P g = some (25, k_imHoldsIn f1 f2 f3 f4, [.t 4, .t 5])) (hc1 : K_validModel P f1) (hc2 : K_imValidEquation P f2) (hc3 : K_relation P f3) (hc4 : K_sameRowsB P f4) : K_imHoldsIn P g := by
  intro m q
  obtain ⟨a, b⟩ := q
  refine af_of_res hr hm rfl fun hb => ?_
  obtain ⟨ak, av, ann, aks, rfl⟩ := Ex.ex a
  obtain ⟨bk, bv, bnn, bks, rfl⟩ := Ex.ex b
  simp +contextual -implicitDefEqProofs only [k_imHoldsIn, eM, eS, eI, eG, eB, eQ, D.at, D.size, D.sizeL, D.sub, Int.cast_ofNat_Int, Int.reduceLT, Int.reduceLE, Int.le_refl, Int.reduceBEq, Int.reduceEq, beq_self_eq_true, Int.reduceToNat, D.isAg, List.map_nil, List.map_cons, List.length_cons, List.length_nil, bne, Bool.not_true, Bool.not_false, Bool.true_and, Bool.false_and, Bool.and_true, Bool.and_false, Bool.true_or, Bool.false_or, Bool.or_true, Bool.or_false, go_sem, eI, eB, ↓reduceIte, Nat.reduceEqDiff, Nat.reduceAdd, Nat.reduceLeDiff, Nat.reduceMul, Nat.reduceBEq, Nat.reduceBneDiff, Nat.reduceLT, Nat.reduceSub, decide_true, decide_false, and_self, true_and, and_true, false_and, and_false, not_true_eq_false, not_false_eq_true, false_implies, true_implies, implies_true, ge_iff_le, Bool.false_eq_true, List.cons_append, List.nil_append, Int.ofNat_lt, List.length_map, Int.natCast_nonneg]
  refine callQ_self (ds := [eM m]) (by rfl) (hc1 m) ?_
  cases ho : okMo m
  · rw [show holdsR m (.mk ak av ann aks, .mk bk bv bnn bks) = (false, 1) by simp [holdsR, ho]]
    simp +contextual -implicitDefEqProofs only [eM, eS, eI, eG, eB, eQ, D.at, D.size, D.sizeL, D.sub, Int.cast_ofNat_Int, Int.reduceLT, Int.reduceLE, Int.le_refl, Int.reduceBEq, Int.reduceEq, beq_self_eq_true, Int.reduceToNat, D.isAg, List.map_nil, List.map_cons, List.length_cons, List.length_nil, bne, Bool.not_true, Bool.not_false, Bool.true_and, Bool.false_and, Bool.and_true, Bool.and_false, Bool.true_or, Bool.false_or, Bool.or_true, Bool.or_false, go_sem, eI, eB, ↓reduceIte, Nat.reduceEqDiff, Nat.reduceAdd, Nat.reduceLeDiff, Nat.reduceMul, Nat.reduceBEq, Nat.reduceBneDiff, Nat.reduceLT, Nat.reduceSub, decide_true, decide_false, and_self, true_and, and_true, false_and, and_false, not_true_eq_false, not_false_eq_true, false_implies, true_implies, implies_true, ge_iff_le, Bool.false_eq_true, List.cons_append, List.nil_append, Int.ofNat_lt, List.length_map, Int.natCast_nonneg]
  simp +contextual -implicitDefEqProofs only [eM, eS, eI, eG, eB, eQ, D.at, D.size, D.sizeL, D.sub, Int.cast_ofNat_Int, Int.reduceLT, Int.reduceLE, Int.le_refl, Int.reduceBEq, Int.reduceEq, beq_self_eq_true, Int.reduceToNat, D.isAg, List.map_nil, List.map_cons, List.length_cons, List.length_nil, bne, Bool.not_true, Bool.not_false, Bool.true_and, Bool.false_and, Bool.and_true, Bool.and_false, Bool.true_or, Bool.false_or, Bool.or_true, Bool.or_false, go_sem, eI, eB, ↓reduceIte, Nat.reduceEqDiff, Nat.reduceAdd, Nat.reduceLeDiff, Nat.reduceMul, Nat.reduceBEq, Nat.reduceBneDiff, Nat.reduceLT, Nat.reduceSub, decide_true, decide_false, and_self, true_and, and_true, false_and, and_false, not_true_eq_false, not_false_eq_true, false_implies, true_implies, implies_true, ge_iff_le, Bool.false_eq_true, List.cons_append, List.nil_append, Int.ofNat_lt, List.length_map, Int.natCast_nonneg]
  refine callQ_self (ds := [eG m.1, eQ (.mk ak av ann aks, .mk bk bv bnn bks)]) (by rfl) (hc2 m.1 (.mk ak av ann aks, .mk bk bv bnn bks)) ?_
  cases hq : okQ m.1 (.mk ak av ann aks, .mk bk bv bnn bks)
  · rw [show holdsR m (.mk ak av ann aks, .mk bk bv bnn bks) = (false, 1) by simp [holdsR, hq]]
    simp +contextual -implicitDefEqProofs only [eM, eS, eI, eG, eB, eQ, D.at, D.size, D.sizeL, D.sub, Int.cast_ofNat_Int, Int.reduceLT, Int.reduceLE, Int.le_refl, Int.reduceBEq, Int.reduceEq, beq_self_eq_true, Int.reduceToNat, D.isAg, List.map_nil, List.map_cons, List.length_cons, List.length_nil, bne, Bool.not_true, Bool.not_false, Bool.true_and, Bool.false_and, Bool.and_true, Bool.and_false, Bool.true_or, Bool.false_or, Bool.or_true, Bool.or_false, go_sem, eI, eB, ↓reduceIte, Nat.reduceEqDiff, Nat.reduceAdd, Nat.reduceLeDiff, Nat.reduceMul, Nat.reduceBEq, Nat.reduceBneDiff, Nat.reduceLT, Nat.reduceSub, decide_true, decide_false, and_self, true_and, and_true, false_and, and_false, not_true_eq_false, not_false_eq_true, false_implies, true_implies, implies_true, ge_iff_le, Bool.false_eq_true, List.cons_append, List.nil_append, Int.ofNat_lt, List.length_map, Int.natCast_nonneg]
  obtain ⟨n, hM⟩ := okMo_ok ho
  have hT := okQ_tree hq
  have hn : m.2.1.toNat = n := by rw [hM.pts]; rfl
  rw [show holdsR m (.mk ak av ann aks, .mk bk bv bnn bks) = (eqT n (relE m (.mk ak av ann aks)) (relE m (.mk bk bv bnn bks)), 0) by simp [holdsR, ho, hq, hn]]
  simp +contextual -implicitDefEqProofs only [eM, eS, eI, eG, eB, eQ, D.at, D.size, D.sizeL, D.sub, Int.cast_ofNat_Int, Int.reduceLT, Int.reduceLE, Int.le_refl, Int.reduceBEq, Int.reduceEq, beq_self_eq_true, Int.reduceToNat, D.isAg, List.map_nil, List.map_cons, List.length_cons, List.length_nil, bne, Bool.not_true, Bool.not_false, Bool.true_and, Bool.false_and, Bool.and_true, Bool.and_false, Bool.true_or, Bool.false_or, Bool.or_true, Bool.or_false, go_sem, eI, eB, ↓reduceIte, Nat.reduceEqDiff, Nat.reduceAdd, Nat.reduceLeDiff, Nat.reduceMul, Nat.reduceBEq, Nat.reduceBneDiff, Nat.reduceLT, Nat.reduceSub, decide_true, decide_false, and_self, true_and, and_true, false_and, and_false, not_true_eq_false, not_false_eq_true, false_implies, true_implies, implies_true, ge_iff_le, Bool.false_eq_true, List.cons_append, List.nil_append, Int.ofNat_lt, List.length_map, Int.natCast_nonneg]
  have hr0 := hc3 m n (.mk ak av ann aks) hM hT.1
  rw [eE_mk] at hr0
  refine callQ_self (ds := [eM m, .ag [.sc (.int .i64 ak), .sc (.int .i64 av), .ls ann 3 (aks.map eE)]]) (by rfl) hr0 ?_
  simp +contextual -implicitDefEqProofs only [eM, eS, eI, eG, eB, eQ, D.at, D.size, D.sizeL, D.sub, Int.cast_ofNat_Int, Int.reduceLT, Int.reduceLE, Int.le_refl, Int.reduceBEq, Int.reduceEq, beq_self_eq_true, Int.reduceToNat, D.isAg, List.map_nil, List.map_cons, List.length_cons, List.length_nil, bne, Bool.not_true, Bool.not_false, Bool.true_and, Bool.false_and, Bool.and_true, Bool.and_false, Bool.true_or, Bool.false_or, Bool.or_true, Bool.or_false, go_sem, eI, eB, ↓reduceIte, Nat.reduceEqDiff, Nat.reduceAdd, Nat.reduceLeDiff, Nat.reduceMul, Nat.reduceBEq, Nat.reduceBneDiff, Nat.reduceLT, Nat.reduceSub, decide_true, decide_false, and_self, true_and, and_true, false_and, and_false, not_true_eq_false, not_false_eq_true, false_implies, true_implies, implies_true, ge_iff_le, Bool.false_eq_true, List.cons_append, List.nil_append, Int.ofNat_lt, List.length_map, Int.natCast_nonneg]
  have hr3 := hc3 m n (.mk bk bv bnn bks) hM hT.2
  rw [eE_mk] at hr3
  refine callQ_self (ds := [eM m, .ag [.sc (.int .i64 bk), .sc (.int .i64 bv), .ls bnn 3 (bks.map eE)]]) (by rfl) hr3 ?_
  simp +contextual -implicitDefEqProofs only [eM, eS, eI, eG, eB, eQ, D.at, D.size, D.sizeL, D.sub, Int.cast_ofNat_Int, Int.reduceLT, Int.reduceLE, Int.le_refl, Int.reduceBEq, Int.reduceEq, beq_self_eq_true, Int.reduceToNat, D.isAg, List.map_nil, List.map_cons, List.length_cons, List.length_nil, bne, Bool.not_true, Bool.not_false, Bool.true_and, Bool.false_and, Bool.and_true, Bool.and_false, Bool.true_or, Bool.false_or, Bool.or_true, Bool.or_false, go_sem, eI, eB, ↓reduceIte, Nat.reduceEqDiff, Nat.reduceAdd, Nat.reduceLeDiff, Nat.reduceMul, Nat.reduceBEq, Nat.reduceBneDiff, Nat.reduceLT, Nat.reduceSub, decide_true, decide_false, and_self, true_and, and_true, false_and, and_false, not_true_eq_false, not_false_eq_true, false_implies, true_implies, implies_true, ge_iff_le, Bool.false_eq_true, List.cons_append, List.nil_append, Int.ofNat_lt, List.length_map, Int.natCast_nonneg]
  refine callQ_self (ds := [.ls (some false) 1 (rD n (relE m (.mk ak av ann aks))), .ls (some false) 1 (rD n (relE m (.mk bk bv bnn bks)))]) (by rfl) (rowsI_D hc4) ?_
  simp +contextual -implicitDefEqProofs only [eM, eS, eI, eG, eB, eQ, D.at, D.size, D.sizeL, D.sub, Int.cast_ofNat_Int, Int.reduceLT, Int.reduceLE, Int.le_refl, Int.reduceBEq, Int.reduceEq, beq_self_eq_true, Int.reduceToNat, D.isAg, List.map_nil, List.map_cons, List.length_cons, List.length_nil, bne, Bool.not_true, Bool.not_false, Bool.true_and, Bool.false_and, Bool.and_true, Bool.and_false, Bool.true_or, Bool.false_or, Bool.or_true, Bool.or_false, go_sem, eI, eB, ↓reduceIte, Nat.reduceEqDiff, Nat.reduceAdd, Nat.reduceLeDiff, Nat.reduceMul, Nat.reduceBEq, Nat.reduceBneDiff, Nat.reduceLT, Nat.reduceSub, decide_true, decide_false, and_self, true_and, and_true, false_and, and_false, not_true_eq_false, not_false_eq_true, false_implies, true_implies, implies_true, ge_iff_le, Bool.false_eq_true, List.cons_append, List.nil_append, Int.ofNat_lt, List.length_map, Int.natCast_nonneg]
end Go.Ax
