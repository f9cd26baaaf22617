/- Contracts of functions of the seat, proved over the engine. No condition. -/
import Derived.Test.YtbnlielpckndkaaX43
set_option linter.unusedSimpArgs false
set_option linter.unusedVariables false
set_option linter.unnecessarySimpa false
namespace Go.Ax
set_option linter.unusedSimpArgs false
set_option maxRecDepth 20000
set_option maxHeartbeats 4000000
def yF (f : Nat → Bool) (n : Nat) : Nat → Option Nat
  | 0 => none
  | k + 1 => if f (n - (k + 1)) = true then some (n - (k + 1)) else yF f n k
def xF (A B : Rel) (n : Nat) : Nat → Option (Nat × Nat)
  | 0 => none
  | k + 1 => match yF (fun y => A (n - (k + 1)) y != B (n - (k + 1)) y) n n with
    | some y => some (n - (k + 1), y)
    | none => xF A B n k
theorem yF_step {f : Nat → Bool} {n y : Nat} (h : y < n) : yF f n (n - y) = if f y = true then some y else yF f n (n - (y + 1)) := by
  rw [show n - y = (n - (y + 1)) + 1 by omega]
  simp only [yF]
  rw [show n - (n - (y + 1) + 1) = y by omega]
theorem xF_step {A B : Rel} {n x : Nat} (h : x < n) : xF A B n (n - x) = match yF (fun y => A x y != B x y) n n with | some y => some (x, y) | none => xF A B n (n - (x + 1)) := by
  rw [show n - x = (n - (x + 1)) + 1 by omega]
  simp only [xF]
  rw [show n - (n - (x + 1) + 1) = x by omega]
theorem beq_ft : (false == true) = false := rfl
theorem beq_tf : (true == false) = false := rfl
def fpA (A : Rel) : Option (Nat × Nat) → Int × Int × Bool × Int
  | some (x, y) => (x, y, A x y, 0)
  | none => (0, 0, false, 6)

def firstR (m : Mo) (q : Eq2) : Int × Int × Bool × Int := if okMo m = true ∧ okQ m.1 q = true then fpA (relE m q.1) (xF (relE m q.1) (relE m q.2) m.2.1.toNat m.2.1.toNat) else (0, 0, false, 1)

def k_spFirstPair (f1 f2 f3 : Nat) : RC :=
 (.seq
  (.reg false [⟨none, .box 2 5 (.t 0)⟩,
    ⟨none, .box 3 6 (.t 1)⟩,
    ⟨none, .mv 4 (.c (.sc (.int .i64 0)))⟩,
    ⟨none, .mv 5 (.c (.sc (.int .i64 0)))⟩,
    ⟨none, .mv 6 (.c (.sc (.bool false)))⟩,
    ⟨none, .mv 7 (.c (.sc (.int .i64 0)))⟩])
  ((.seq
   ((.seq
    (.reg false [⟨none, .call (some 12) f1 [(.t 2)]⟩,
      ⟨none, .un 13 .not (.t 12)⟩,
      ⟨none, .mv 14 (.t 13)⟩,
      ⟨some (14, false), .fa 15 0 (.t 2)⟩,
      ⟨some (14, false), .ld 16 true 2 (.t 15)⟩,
      ⟨some (14, false), .call (some 17) f2 [(.t 16), (.t 3)]⟩,
      ⟨some (14, false), .un 18 .not (.t 17)⟩,
      ⟨none, .pick 19 (.t 14) (.c (.sc (.bool true))) (.t 18)⟩])
    (.cond (.t 19)
     ((.seq
      (.reg false [⟨none, .mv 4 (.c (.sc (.int .i64 0)))⟩,
        ⟨none, .mv 5 (.c (.sc (.int .i64 0)))⟩,
        ⟨none, .mv 6 (.c (.sc (.bool false)))⟩,
        ⟨none, .mv 7 (.c (.sc (.int .i64 1)))⟩])
      (.ret)))
     (.skip))))
   ((.seq
    (.reg false [⟨none, .fa 20 0 (.t 3)⟩,
      ⟨none, .call (some 21) f3 [(.t 2), (.t 20)]⟩,
      ⟨none, .mv 8 (.t 21)⟩])
    ((.seq
     (.reg false [⟨none, .fa 22 3 (.t 3)⟩,
       ⟨none, .call (some 23) f3 [(.t 2), (.t 22)]⟩,
       ⟨none, .mv 9 (.t 23)⟩])
     ((.seq
      ((.seq
       (.reg false [⟨none, .mv 10 (.c (.sc (.int .i64 0)))⟩])
       (.blk 0
        (.loop
         ((.seq
          ((.seq
           (.reg false [⟨none, .mv 24 (.t 10)⟩,
             ⟨none, .fa 25 2 (.t 2)⟩,
             ⟨none, .ld 26 false 1 (.t 25)⟩,
             ⟨none, .bin 27 .lss (.t 24) (.t 26)⟩])
           (.cond (.t 27)
            (.skip)
            (.exit 0))))
          ((.seq
           (.blk 1
            ((.seq
             (.reg false [⟨none, .mv 11 (.c (.sc (.int .i64 0)))⟩])
             (.blk 2
              (.loop
               ((.seq
                ((.seq
                 (.reg false [⟨none, .mv 30 (.t 11)⟩,
                   ⟨none, .fa 31 2 (.t 2)⟩,
                   ⟨none, .ld 32 false 1 (.t 31)⟩,
                   ⟨none, .bin 33 .lss (.t 30) (.t 32)⟩])
                 (.cond (.t 33)
                  (.skip)
                  (.exit 2))))
                ((.seq
                 (.blk 3
                  ((.seq
                   (.reg true [⟨none, .mv 36 (.t 8)⟩,
                     ⟨none, .mv 37 (.t 10)⟩,
                     ⟨none, .ia 38 1 (.t 36) (.t 37)⟩,
                     ⟨none, .ld 39 false 1 (.t 38)⟩,
                     ⟨none, .mv 40 (.t 11)⟩,
                     ⟨none, .ia 41 1 (.t 39) (.t 40)⟩,
                     ⟨none, .ld 42 false 1 (.t 41)⟩,
                     ⟨none, .mv 43 (.t 9)⟩,
                     ⟨none, .mv 44 (.t 10)⟩,
                     ⟨none, .ia 45 1 (.t 43) (.t 44)⟩,
                     ⟨none, .ld 46 false 1 (.t 45)⟩,
                     ⟨none, .mv 47 (.t 11)⟩,
                     ⟨none, .ia 48 1 (.t 46) (.t 47)⟩,
                     ⟨none, .ld 49 false 1 (.t 48)⟩,
                     ⟨none, .beq 50 true (.t 42) (.t 49)⟩])
                   (.cond (.t 50)
                    ((.seq
                     (.reg true [⟨none, .mv 51 (.t 10)⟩,
                       ⟨none, .mv 52 (.t 11)⟩,
                       ⟨none, .mv 53 (.t 8)⟩,
                       ⟨none, .mv 54 (.t 10)⟩,
                       ⟨none, .ia 55 1 (.t 53) (.t 54)⟩,
                       ⟨none, .ld 56 false 1 (.t 55)⟩,
                       ⟨none, .mv 57 (.t 11)⟩,
                       ⟨none, .ia 58 1 (.t 56) (.t 57)⟩,
                       ⟨none, .ld 59 false 1 (.t 58)⟩,
                       ⟨none, .mv 4 (.t 51)⟩,
                       ⟨none, .mv 5 (.t 52)⟩,
                       ⟨none, .mv 6 (.t 59)⟩,
                       ⟨none, .mv 7 (.c (.sc (.int .i64 0)))⟩])
                     (.ret)))
                    (.skip)))))
                 (.reg false [⟨none, .mv 34 (.t 11)⟩,
                   ⟨none, .bin 35 .add (.t 34) (.c (.sc (.int .i64 1)))⟩,
                   ⟨none, .mv 11 (.t 35)⟩]))))))))))
           (.reg false [⟨none, .mv 28 (.t 10)⟩,
             ⟨none, .bin 29 .add (.t 28) (.c (.sc (.int .i64 1)))⟩,
             ⟨none, .mv 10 (.t 29)⟩])))))))))
      ((.seq
       (.reg false [⟨none, .mv 4 (.c (.sc (.int .i64 0)))⟩,
         ⟨none, .mv 5 (.c (.sc (.int .i64 0)))⟩,
         ⟨none, .mv 6 (.c (.sc (.bool false)))⟩,
         ⟨none, .mv 7 (.c (.sc (.int .i64 6)))⟩])
       (.ret))))))))))))
def K_spFirstPair (P : Program) (fno : Nat) : Prop := ∀ (m : Mo) (q : Eq2), AF P fno [eM m, eQ q] (.tup ([.own (eI (firstR m q).1), .own (eI (firstR m q).2.1), .own (eB (firstR m q).2.2.1), .own (eI (firstR m q).2.2.2)]))
theorem a_spFirstPair {P : Program} (hm : P.follows .mixedOrders = true) {g f1 f2 f3 : Nat} (hr : resF P g = some (60, k_spFirstPair f1 f2 f3, [.t 4, .t 5, .t 6, .t 7])) (hc1 : K_l05Ok P f1) (hc2 : K_l04Equation P f2) (hc3 : K_l05Rel P f3) : K_spFirstPair P g := by
  intro m q
  obtain ⟨a, b⟩ := q
  refine af_of_res hr hm rfl fun hb => ?_
  obtain ⟨ak, av, ann, aks, rfl⟩ := Ex.ex a
  obtain ⟨bk, bv, bnn, bks, rfl⟩ := Ex.ex b
  simp +contextual -implicitDefEqProofs only [k_spFirstPair, eM, eS, eI, eG, eB, eQ, D.at, D.size, D.sizeL, D.sub, Int.cast_ofNat_Int, Int.reduceLT, Int.reduceLE, Int.le_refl, Int.reduceBEq, Int.reduceEq, beq_self_eq_true, Int.reduceToNat, D.isAg, List.map_nil, List.map_cons, List.length_cons, List.length_nil, bne, Bool.not_true, Bool.not_false, Bool.true_and, Bool.false_and, Bool.and_true, Bool.and_false, Bool.true_or, Bool.false_or, Bool.or_true, Bool.or_false, go_sem, eI, eB, ↓reduceIte, Nat.reduceEqDiff, Nat.reduceAdd, Nat.reduceLeDiff, Nat.reduceMul, Nat.reduceBEq, Nat.reduceBneDiff, Nat.reduceLT, Nat.reduceSub, decide_true, decide_false, and_self, true_and, and_true, false_and, and_false, not_true_eq_false, not_false_eq_true, false_implies, true_implies, implies_true, ge_iff_le, Bool.false_eq_true, List.cons_append, List.nil_append, Int.ofNat_lt, List.length_map, Int.natCast_nonneg]
  refine callQ_self (ds := [.pt (eM m) 0]) (by rfl) (hc1 m) ?_
  cases ho : okMo m
  · rw [show firstR m (.mk ak av ann aks, .mk bk bv bnn bks) = (0, 0, false, 1) by simp [firstR, ho]]
    simp +contextual -implicitDefEqProofs only [eM, eS, eI, eG, eB, eQ, D.at, D.size, D.sizeL, D.sub, Int.cast_ofNat_Int, Int.reduceLT, Int.reduceLE, Int.le_refl, Int.reduceBEq, Int.reduceEq, beq_self_eq_true, Int.reduceToNat, D.isAg, List.map_nil, List.map_cons, List.length_cons, List.length_nil, bne, Bool.not_true, Bool.not_false, Bool.true_and, Bool.false_and, Bool.and_true, Bool.and_false, Bool.true_or, Bool.false_or, Bool.or_true, Bool.or_false, go_sem, eI, eB, ↓reduceIte, Nat.reduceEqDiff, Nat.reduceAdd, Nat.reduceLeDiff, Nat.reduceMul, Nat.reduceBEq, Nat.reduceBneDiff, Nat.reduceLT, Nat.reduceSub, decide_true, decide_false, and_self, true_and, and_true, false_and, and_false, not_true_eq_false, not_false_eq_true, false_implies, true_implies, implies_true, ge_iff_le, Bool.false_eq_true, List.cons_append, List.nil_append, Int.ofNat_lt, List.length_map, Int.natCast_nonneg]
  simp +contextual -implicitDefEqProofs only [eM, eS, eI, eG, eB, eQ, D.at, D.size, D.sizeL, D.sub, Int.cast_ofNat_Int, Int.reduceLT, Int.reduceLE, Int.le_refl, Int.reduceBEq, Int.reduceEq, beq_self_eq_true, Int.reduceToNat, D.isAg, List.map_nil, List.map_cons, List.length_cons, List.length_nil, bne, Bool.not_true, Bool.not_false, Bool.true_and, Bool.false_and, Bool.and_true, Bool.and_false, Bool.true_or, Bool.false_or, Bool.or_true, Bool.or_false, go_sem, eI, eB, ↓reduceIte, Nat.reduceEqDiff, Nat.reduceAdd, Nat.reduceLeDiff, Nat.reduceMul, Nat.reduceBEq, Nat.reduceBneDiff, Nat.reduceLT, Nat.reduceSub, decide_true, decide_false, and_self, true_and, and_true, false_and, and_false, not_true_eq_false, not_false_eq_true, false_implies, true_implies, implies_true, ge_iff_le, Bool.false_eq_true, List.cons_append, List.nil_append, Int.ofNat_lt, List.length_map, Int.natCast_nonneg]
  refine callQ_self (ds := [eG m.1, .pt (eQ (.mk ak av ann aks, .mk bk bv bnn bks)) 0]) (by rfl) (hc2 m.1 (.mk ak av ann aks, .mk bk bv bnn bks)) ?_
  cases hq : okQ m.1 (.mk ak av ann aks, .mk bk bv bnn bks)
  · rw [show firstR m (.mk ak av ann aks, .mk bk bv bnn bks) = (0, 0, false, 1) by simp [firstR, hq]]
    simp +contextual -implicitDefEqProofs only [eM, eS, eI, eG, eB, eQ, D.at, D.size, D.sizeL, D.sub, Int.cast_ofNat_Int, Int.reduceLT, Int.reduceLE, Int.le_refl, Int.reduceBEq, Int.reduceEq, beq_self_eq_true, Int.reduceToNat, D.isAg, List.map_nil, List.map_cons, List.length_cons, List.length_nil, bne, Bool.not_true, Bool.not_false, Bool.true_and, Bool.false_and, Bool.and_true, Bool.and_false, Bool.true_or, Bool.false_or, Bool.or_true, Bool.or_false, go_sem, eI, eB, ↓reduceIte, Nat.reduceEqDiff, Nat.reduceAdd, Nat.reduceLeDiff, Nat.reduceMul, Nat.reduceBEq, Nat.reduceBneDiff, Nat.reduceLT, Nat.reduceSub, decide_true, decide_false, and_self, true_and, and_true, false_and, and_false, not_true_eq_false, not_false_eq_true, false_implies, true_implies, implies_true, ge_iff_le, Bool.false_eq_true, List.cons_append, List.nil_append, Int.ofNat_lt, List.length_map, Int.natCast_nonneg]
  obtain ⟨n, hM⟩ := okMo_ok ho
  have hT := okQ_tree hq
  have n8 := hM.n8
  have hn : m.2.1.toNat = n := by rw [hM.pts]; rfl
  have hn' : m.2.1 = (n : Int) := hM.pts
  rw [show firstR m (.mk ak av ann aks, .mk bk bv bnn bks) = fpA (relE m (.mk ak av ann aks)) (xF (relE m (.mk ak av ann aks)) (relE m (.mk bk bv bnn bks)) n n) by simp [firstR, ho, hq, hn]]
  simp +contextual -implicitDefEqProofs only [eM, eS, eI, eG, eB, eQ, D.at, D.size, D.sizeL, D.sub, Int.cast_ofNat_Int, Int.reduceLT, Int.reduceLE, Int.le_refl, Int.reduceBEq, Int.reduceEq, beq_self_eq_true, Int.reduceToNat, D.isAg, List.map_nil, List.map_cons, List.length_cons, List.length_nil, bne, Bool.not_true, Bool.not_false, Bool.true_and, Bool.false_and, Bool.and_true, Bool.and_false, Bool.true_or, Bool.false_or, Bool.or_true, Bool.or_false, go_sem, eI, eB, ↓reduceIte, Nat.reduceEqDiff, Nat.reduceAdd, Nat.reduceLeDiff, Nat.reduceMul, Nat.reduceBEq, Nat.reduceBneDiff, Nat.reduceLT, Nat.reduceSub, decide_true, decide_false, and_self, true_and, and_true, false_and, and_false, not_true_eq_false, not_false_eq_true, false_implies, true_implies, implies_true, ge_iff_le, Bool.false_eq_true, List.cons_append, List.nil_append, Int.ofNat_lt, List.length_map, Int.natCast_nonneg]
  have hr0 := hc3 m n (.mk ak av ann aks) hM hT.1
  rw [eE_mk] at hr0
  refine callQ_le (es := [.pt (eM m) 0, .pt (.ag [.sc (.int .i64 ak), .sc (.int .i64 av), .ls ann 3 (aks.map eE)]) 0]) rfl ⟨D.LeA.refl _, D.LeA.sub (sz := 3) (by show _ ≤ 6; omega) rfl (by omega) rfl, trivial⟩ hr0 ?_
  simp +contextual -implicitDefEqProofs only [eM, eS, eI, eG, eB, eQ, D.at, D.size, D.sizeL, D.sub, Int.cast_ofNat_Int, Int.reduceLT, Int.reduceLE, Int.le_refl, Int.reduceBEq, Int.reduceEq, beq_self_eq_true, Int.reduceToNat, D.isAg, List.map_nil, List.map_cons, List.length_cons, List.length_nil, bne, Bool.not_true, Bool.not_false, Bool.true_and, Bool.false_and, Bool.and_true, Bool.and_false, Bool.true_or, Bool.false_or, Bool.or_true, Bool.or_false, go_sem, eI, eB, ↓reduceIte, Nat.reduceEqDiff, Nat.reduceAdd, Nat.reduceLeDiff, Nat.reduceMul, Nat.reduceBEq, Nat.reduceBneDiff, Nat.reduceLT, Nat.reduceSub, decide_true, decide_false, and_self, true_and, and_true, false_and, and_false, not_true_eq_false, not_false_eq_true, false_implies, true_implies, implies_true, ge_iff_le, Bool.false_eq_true, List.cons_append, List.nil_append, Int.ofNat_lt, List.length_map, Int.natCast_nonneg]
  have hr3 := hc3 m n (.mk bk bv bnn bks) hM hT.2
  rw [eE_mk] at hr3
  refine callQ_le (es := [.pt (eM m) 0, .pt (.ag [.sc (.int .i64 bk), .sc (.int .i64 bv), .ls bnn 3 (bks.map eE)]) 0]) rfl ⟨D.LeA.refl _, D.LeA.sub (sz := 3) (by show _ ≤ 6; omega) rfl (by omega) rfl, trivial⟩ hr3 ?_
  simp +contextual -implicitDefEqProofs only [eM, eS, eI, eG, eB, eQ, D.at, D.size, D.sizeL, D.sub, Int.cast_ofNat_Int, Int.reduceLT, Int.reduceLE, Int.le_refl, Int.reduceBEq, Int.reduceEq, beq_self_eq_true, Int.reduceToNat, D.isAg, List.map_nil, List.map_cons, List.length_cons, List.length_nil, bne, Bool.not_true, Bool.not_false, Bool.true_and, Bool.false_and, Bool.and_true, Bool.and_false, Bool.true_or, Bool.false_or, Bool.or_true, Bool.or_false, go_sem, eI, eB, ↓reduceIte, Nat.reduceEqDiff, Nat.reduceAdd, Nat.reduceLeDiff, Nat.reduceMul, Nat.reduceBEq, Nat.reduceBneDiff, Nat.reduceLT, Nat.reduceSub, decide_true, decide_false, and_self, true_and, and_true, false_and, and_false, not_true_eq_false, not_false_eq_true, false_implies, true_implies, implies_true, ge_iff_le, Bool.false_eq_true, List.cons_append, List.nil_append, Int.ofNat_lt, List.length_map, Int.natCast_nonneg]
  generalize relE m (.mk ak av ann aks) = A
  generalize relE m (.mk bk bv bnn bks) = B
  refine vc_onU (α := Nat) [4, 5, 6, 7, 10, 11, 24, 25, 26, 27, 28, 29, 30, 31, 32, 33, 34, 35, 36, 37, 38, 39, 40, 41, 42, 43, 44, 45, 46, 47, 48, 49, 50, 51, 52, 53, 54, 55, 56, 57, 58, 59] (fun x => [(10, .im none (.sc (.int .i64 x)))]) (fun x => [(23, .own (.ls (some false) 1 (rD n B))), (21, .own (.ls (some false) 1 (rD n A))), (3, .ar false (some false) 6 [.ag [.sc (.int .i64 (Ex.mk ak av ann aks).k), .sc (.int .i64 (Ex.mk ak av ann aks).n), .ls (Ex.mk ak av ann aks).nn 3 ((Ex.mk ak av ann aks).ks.map eE), .sc (.int .i64 (Ex.mk bk bv bnn bks).k), .sc (.int .i64 (Ex.mk bk bv bnn bks).n), .ls (Ex.mk bk bv bnn bks).nn 3 ((Ex.mk bk bv bnn bks).ks.map eE)]]), (2, .ar false (some false) 5 [.ag [.sc (.int .i64 m.1.1), .sc (.int .i64 m.1.2), .sc (.int .i64 m.2.1), .ls m.2.2.1.1 1 (m.2.2.1.2.map (eS 1 eB)), .ls m.2.2.2.1 1 (m.2.2.2.2.map (eS 1 (eS 1 eB)))]])]) (fun x => x ≤ n ∧ xF A B n n = xF A B n (n - x)) (fun x => n - x) 0 (Ent.to [] (by simp only [go_sem, ↓reduceIte, Nat.reduceEqDiff, Nat.reduceBEq, Nat.reduceBneDiff, Bool.false_eq_true]; rfl) rfl (by simp [hn']) (by rfl) (by simp only [subEnv, go_sem, ↓reduceIte, Nat.reduceEqDiff, Nat.reduceBEq, keep, memN, Bool.or_false, Bool.false_or, Bool.or_self, Bool.false_eq_true] <;> simp)) ⟨Nat.zero_le _, rfl⟩ ?_
  rintro x ⟨hx0, hx1⟩
  by_cases hx : x < n
  · rw [xF_step hx] at hx1
    have b1 := rD_at (R := A) hx
    have b3 := rD_at (R := B) hx
    simp +contextual -implicitDefEqProofs only [hx, hn', eM, eS, eI, eG, eB, eQ, at0, D.size, D.sizeL, D.sub, Int.cast_ofNat_Int, Int.reduceLT, Int.reduceLE, Int.le_refl, Int.reduceBEq, Int.reduceEq, beq_self_eq_true, Int.reduceToNat, D.isAg, List.map_nil, List.map_cons, List.length_cons, List.length_nil, bne, Bool.not_true, Bool.not_false, Bool.true_and, Bool.false_and, Bool.and_true, Bool.and_false, Bool.true_or, Bool.false_or, Bool.or_true, Bool.or_false, go_sem, eI, eB, ↓reduceIte, Nat.reduceEqDiff, Nat.reduceAdd, Nat.reduceLeDiff, Nat.reduceMul, Nat.reduceBEq, Nat.reduceBneDiff, Nat.reduceLT, Nat.reduceSub, decide_true, decide_false, and_self, true_and, and_true, false_and, and_false, not_true_eq_false, not_false_eq_true, false_implies, true_implies, implies_true, ge_iff_le, Bool.false_eq_true, List.cons_append, List.nil_append, Int.ofNat_lt, List.length_map, Int.natCast_nonneg]
    refine vc_onU (α := Nat) [4, 5, 6, 7, 11, 30, 31, 32, 33, 34, 35, 36, 37, 38, 39, 40, 41, 42, 43, 44, 45, 46, 47, 48, 49, 50, 51, 52, 53, 54, 55, 56, 57, 58, 59] (fun y => [(11, .im none (.sc (.int .i64 y)))]) (fun y => [(23, .own (.ls (some false) 1 (rD n B))), (21, .own (.ls (some false) 1 (rD n A))), (3, .ar false (some false) 6 [.ag [.sc (.int .i64 (Ex.mk ak av ann aks).k), .sc (.int .i64 (Ex.mk ak av ann aks).n), .ls (Ex.mk ak av ann aks).nn 3 ((Ex.mk ak av ann aks).ks.map eE), .sc (.int .i64 (Ex.mk bk bv bnn bks).k), .sc (.int .i64 (Ex.mk bk bv bnn bks).n), .ls (Ex.mk bk bv bnn bks).nn 3 ((Ex.mk bk bv bnn bks).ks.map eE)]]), (2, .ar false (some false) 5 [.ag [.sc (.int .i64 m.1.1), .sc (.int .i64 m.1.2), .sc (.int .i64 m.2.1), .ls m.2.2.1.1 1 (m.2.2.1.2.map (eS 1 eB)), .ls m.2.2.2.1 1 (m.2.2.2.2.map (eS 1 (eS 1 eB)))]])]) (fun y => y ≤ n ∧ yF (fun y => A x y != B x y) n n = yF (fun y => A x y != B x y) n (n - y)) (fun y => n - y) 0 (Ent.to [] (by simp only [go_sem, ↓reduceIte, Nat.reduceEqDiff, Nat.reduceBEq, Nat.reduceBneDiff, Bool.false_eq_true]; rfl) rfl (by simp [hn']) (by rfl) (by simp only [subEnv, go_sem, ↓reduceIte, Nat.reduceEqDiff, Nat.reduceBEq, keep, memN, Bool.or_false, Bool.false_or, Bool.or_self, Bool.false_eq_true] <;> simp)) ⟨Nat.zero_le _, rfl⟩ ?_
    rintro y ⟨hy0, hy1⟩
    by_cases hy : y < n
    · rw [yF_step hy] at hy1
      have b2 := rRow_at (f := A x) hy
      have b4 := rRow_at (f := B x) hy
      by_cases hne : A x y = B x y
      · rw [if_neg (by simp [hne])] at hy1
        cases h1 : A x y
        all_goals
          rw [h1] at b2 hne
          rw [← hne] at b4
          simp +contextual -implicitDefEqProofs only [hx, hy, hn', b1, b2, b3, b4, rD_len, rRow_len, eM, eS, eI, eG, eB, eQ, at0, D.size, D.sizeL, D.sub, Int.cast_ofNat_Int, Int.reduceLT, Int.reduceLE, Int.le_refl, Int.reduceBEq, Int.reduceEq, beq_self_eq_true, Int.reduceToNat, D.isAg, List.map_nil, List.map_cons, List.length_cons, List.length_nil, bne, Bool.not_true, Bool.not_false, Bool.true_and, Bool.false_and, Bool.and_true, Bool.and_false, Bool.true_or, Bool.false_or, Bool.or_true, Bool.or_false, go_sem, eI, eB, ↓reduceIte, Nat.reduceEqDiff, Nat.reduceAdd, Nat.reduceLeDiff, Nat.reduceMul, Nat.reduceBEq, Nat.reduceBneDiff, Nat.reduceLT, Nat.reduceSub, decide_true, decide_false, and_self, true_and, and_true, false_and, and_false, not_true_eq_false, not_false_eq_true, false_implies, true_implies, implies_true, ge_iff_le, Bool.false_eq_true, List.cons_append, List.nil_append, Int.ofNat_lt, List.length_map, Int.natCast_nonneg]
          rw [wrap_i64 (by omega) (by omega)]
          exact ⟨y + 1, ⟨by omega, hy1⟩, by omega, Ent.to [] (by simp only [go_sem, ↓reduceIte, Nat.reduceEqDiff, Nat.reduceBEq, Nat.reduceBneDiff, Bool.false_eq_true]; rfl) rfl (by simp [hn']) (by rfl) (by simp only [subEnv, go_sem, ↓reduceIte, Nat.reduceEqDiff, Nat.reduceBEq, keep, memN, Bool.or_false, Bool.false_or, Bool.or_self, Bool.false_eq_true] <;> simp)⟩
      · rw [if_pos (by simpa using hne)] at hy1
        rw [hy1] at hx1
        rw [hx1]
        cases h1 : A x y
        · have h2 : B x y = true := by cases h : B x y; (exact absurd (h1.trans h.symm) hne); rfl
          rw [h1] at b2
          rw [h2] at b4
          simp +contextual -implicitDefEqProofs only [fpA, beq_ft, beq_tf, h1, hx, hy, hn', b1, b2, b3, b4, rD_len, rRow_len, eM, eS, eI, eG, eB, eQ, at0, D.size, D.sizeL, D.sub, Int.cast_ofNat_Int, Int.reduceLT, Int.reduceLE, Int.le_refl, Int.reduceBEq, Int.reduceEq, beq_self_eq_true, Int.reduceToNat, D.isAg, List.map_nil, List.map_cons, List.length_cons, List.length_nil, bne, Bool.not_true, Bool.not_false, Bool.true_and, Bool.false_and, Bool.and_true, Bool.and_false, Bool.true_or, Bool.false_or, Bool.or_true, Bool.or_false, go_sem, eI, eB, ↓reduceIte, Nat.reduceEqDiff, Nat.reduceAdd, Nat.reduceLeDiff, Nat.reduceMul, Nat.reduceBEq, Nat.reduceBneDiff, Nat.reduceLT, Nat.reduceSub, decide_true, decide_false, and_self, true_and, and_true, false_and, and_false, not_true_eq_false, not_false_eq_true, false_implies, true_implies, implies_true, ge_iff_le, Bool.false_eq_true, List.cons_append, List.nil_append, Int.ofNat_lt, List.length_map, Int.natCast_nonneg]
        · have h2 : B x y = false := by cases h : B x y; rfl; exact absurd (h1.trans h.symm) hne
          rw [h1] at b2
          rw [h2] at b4
          simp +contextual -implicitDefEqProofs only [fpA, beq_ft, beq_tf, h1, hx, hy, hn', b1, b2, b3, b4, rD_len, rRow_len, eM, eS, eI, eG, eB, eQ, at0, D.size, D.sizeL, D.sub, Int.cast_ofNat_Int, Int.reduceLT, Int.reduceLE, Int.le_refl, Int.reduceBEq, Int.reduceEq, beq_self_eq_true, Int.reduceToNat, D.isAg, List.map_nil, List.map_cons, List.length_cons, List.length_nil, bne, Bool.not_true, Bool.not_false, Bool.true_and, Bool.false_and, Bool.and_true, Bool.and_false, Bool.true_or, Bool.false_or, Bool.or_true, Bool.or_false, go_sem, eI, eB, ↓reduceIte, Nat.reduceEqDiff, Nat.reduceAdd, Nat.reduceLeDiff, Nat.reduceMul, Nat.reduceBEq, Nat.reduceBneDiff, Nat.reduceLT, Nat.reduceSub, decide_true, decide_false, and_self, true_and, and_true, false_and, and_false, not_true_eq_false, not_false_eq_true, false_implies, true_implies, implies_true, ge_iff_le, Bool.false_eq_true, List.cons_append, List.nil_append, Int.ofNat_lt, List.length_map, Int.natCast_nonneg]
    · obtain rfl : y = n := by omega
      rw [Nat.sub_self] at hy1
      simp only [yF] at hy1
      rw [hy1] at hx1
      simp +contextual -implicitDefEqProofs only [hy, hn', eM, eS, eI, eG, eB, eQ, at0, D.size, D.sizeL, D.sub, Int.cast_ofNat_Int, Int.reduceLT, Int.reduceLE, Int.le_refl, Int.reduceBEq, Int.reduceEq, beq_self_eq_true, Int.reduceToNat, D.isAg, List.map_nil, List.map_cons, List.length_cons, List.length_nil, bne, Bool.not_true, Bool.not_false, Bool.true_and, Bool.false_and, Bool.and_true, Bool.and_false, Bool.true_or, Bool.false_or, Bool.or_true, Bool.or_false, go_sem, eI, eB, ↓reduceIte, Nat.reduceEqDiff, Nat.reduceAdd, Nat.reduceLeDiff, Nat.reduceMul, Nat.reduceBEq, Nat.reduceBneDiff, Nat.reduceLT, Nat.reduceSub, decide_true, decide_false, and_self, true_and, and_true, false_and, and_false, not_true_eq_false, not_false_eq_true, false_implies, true_implies, implies_true, ge_iff_le, Bool.false_eq_true, List.cons_append, List.nil_append, Int.ofNat_lt, List.length_map, Int.natCast_nonneg]
      rw [wrap_i64 (by omega) (by omega)]
      exact ⟨x + 1, ⟨by omega, hx1⟩, by omega, Ent.to [] (by simp only [go_sem, ↓reduceIte, Nat.reduceEqDiff, Nat.reduceBEq, Nat.reduceBneDiff, Bool.false_eq_true]; rfl) rfl (by simp [hn']) (by rfl) (by simp only [subEnv, go_sem, ↓reduceIte, Nat.reduceEqDiff, Nat.reduceBEq, keep, memN, Bool.or_false, Bool.false_or, Bool.or_self, Bool.false_eq_true] <;> simp)⟩
  · obtain rfl : x = n := by omega
    rw [Nat.sub_self] at hx1
    rw [hx1]
    simp +contextual -implicitDefEqProofs only [hx, hn', fpA, xF, eM, eS, eI, eG, eB, eQ, at0, D.size, D.sizeL, D.sub, Int.cast_ofNat_Int, Int.reduceLT, Int.reduceLE, Int.le_refl, Int.reduceBEq, Int.reduceEq, beq_self_eq_true, Int.reduceToNat, D.isAg, List.map_nil, List.map_cons, List.length_cons, List.length_nil, bne, Bool.not_true, Bool.not_false, Bool.true_and, Bool.false_and, Bool.and_true, Bool.and_false, Bool.true_or, Bool.false_or, Bool.or_true, Bool.or_false, go_sem, eI, eB, ↓reduceIte, Nat.reduceEqDiff, Nat.reduceAdd, Nat.reduceLeDiff, Nat.reduceMul, Nat.reduceBEq, Nat.reduceBneDiff, Nat.reduceLT, Nat.reduceSub, decide_true, decide_false, and_self, true_and, and_true, false_and, and_false, not_true_eq_false, not_false_eq_true, false_implies, true_implies, implies_true, ge_iff_le, Bool.false_eq_true, List.cons_append, List.nil_append, Int.ofNat_lt, List.length_map, Int.natCast_nonneg]

def k_imFirstPair (f1 f2 f3 : Nat) : RC :=
 (.seq
  (.reg false [⟨none, .box 2 5 (.t 0)⟩,
    ⟨none, .box 3 6 (.t 1)⟩,
    ⟨none, .mv 4 (.c (.sc (.int .i64 0)))⟩,
    ⟨none, .mv 5 (.c (.sc (.int .i64 0)))⟩,
    ⟨none, .mv 6 (.c (.sc (.bool false)))⟩,
    ⟨none, .mv 7 (.c (.sc (.int .i64 0)))⟩])
  ((.seq
   ((.seq
    (.reg false [⟨none, .ld 12 true 5 (.t 2)⟩,
      ⟨none, .call (some 13) f1 [(.t 12)]⟩,
      ⟨none, .un 14 .not (.t 13)⟩,
      ⟨none, .mv 15 (.t 14)⟩,
      ⟨some (15, false), .fa 16 0 (.t 2)⟩,
      ⟨some (15, false), .ld 17 true 2 (.t 16)⟩,
      ⟨some (15, false), .ld 18 true 6 (.t 3)⟩,
      ⟨some (15, false), .call (some 19) f2 [(.t 17), (.t 18)]⟩,
      ⟨some (15, false), .un 20 .not (.t 19)⟩,
      ⟨none, .pick 21 (.t 15) (.c (.sc (.bool true))) (.t 20)⟩])
    (.cond (.t 21)
     ((.seq
      (.reg false [⟨none, .mv 4 (.c (.sc (.int .i64 0)))⟩,
        ⟨none, .mv 5 (.c (.sc (.int .i64 0)))⟩,
        ⟨none, .mv 6 (.c (.sc (.bool false)))⟩,
        ⟨none, .mv 7 (.c (.sc (.int .i64 1)))⟩])
      (.ret)))
     (.skip))))
   ((.seq
    (.reg true [⟨none, .ld 22 true 5 (.t 2)⟩,
      ⟨none, .fa 23 0 (.t 3)⟩,
      ⟨none, .ld 24 true 3 (.t 23)⟩,
      ⟨none, .call (some 25) f3 [(.t 22), (.t 24)]⟩,
      ⟨none, .ld 26 true 5 (.t 2)⟩,
      ⟨none, .fa 27 3 (.t 3)⟩,
      ⟨none, .ld 28 true 3 (.t 27)⟩,
      ⟨none, .call (some 29) f3 [(.t 26), (.t 28)]⟩,
      ⟨none, .mv 8 (.t 25)⟩,
      ⟨none, .mv 9 (.t 29)⟩])
    ((.seq
     ((.seq
      (.reg false [⟨none, .fa 30 2 (.t 2)⟩,
        ⟨none, .ld 31 false 1 (.t 30)⟩,
        ⟨none, .mv 32 (.c (.sc (.int .i64 0)))⟩])
      (.blk 0
       (.loop
        ((.seq
         (.reg false [⟨none, .bin 33 .lss (.t 32) (.t 31)⟩])
         ((.seq
          (.cond (.t 33)
           (.skip)
           (.exit 0))
          ((.seq
           (.blk 1
            ((.seq
             (.reg false [⟨none, .mv 34 (.t 32)⟩,
               ⟨none, .mv 10 (.t 34)⟩])
             ((.seq
              (.reg false [⟨none, .fa 35 2 (.t 2)⟩,
                ⟨none, .ld 36 false 1 (.t 35)⟩,
                ⟨none, .mv 37 (.c (.sc (.int .i64 0)))⟩])
              (.blk 2
               (.loop
                ((.seq
                 (.reg false [⟨none, .bin 38 .lss (.t 37) (.t 36)⟩])
                 ((.seq
                  (.cond (.t 38)
                   (.skip)
                   (.exit 2))
                  ((.seq
                   (.blk 3
                    ((.seq
                     (.reg false [⟨none, .mv 39 (.t 37)⟩,
                       ⟨none, .mv 11 (.t 39)⟩])
                     ((.seq
                      (.reg true [⟨none, .mv 40 (.t 8)⟩,
                        ⟨none, .mv 41 (.t 10)⟩,
                        ⟨none, .ia 42 1 (.t 40) (.t 41)⟩,
                        ⟨none, .ld 43 false 1 (.t 42)⟩,
                        ⟨none, .mv 44 (.t 11)⟩,
                        ⟨none, .ia 45 1 (.t 43) (.t 44)⟩,
                        ⟨none, .ld 46 false 1 (.t 45)⟩,
                        ⟨none, .mv 47 (.t 9)⟩,
                        ⟨none, .mv 48 (.t 10)⟩,
                        ⟨none, .ia 49 1 (.t 47) (.t 48)⟩,
                        ⟨none, .ld 50 false 1 (.t 49)⟩,
                        ⟨none, .mv 51 (.t 11)⟩,
                        ⟨none, .ia 52 1 (.t 50) (.t 51)⟩,
                        ⟨none, .ld 53 false 1 (.t 52)⟩,
                        ⟨none, .beq 54 true (.t 46) (.t 53)⟩])
                      (.cond (.t 54)
                       ((.seq
                        (.reg true [⟨none, .mv 55 (.t 10)⟩,
                          ⟨none, .mv 56 (.t 11)⟩,
                          ⟨none, .mv 57 (.t 8)⟩,
                          ⟨none, .mv 58 (.t 10)⟩,
                          ⟨none, .ia 59 1 (.t 57) (.t 58)⟩,
                          ⟨none, .ld 60 false 1 (.t 59)⟩,
                          ⟨none, .mv 61 (.t 11)⟩,
                          ⟨none, .ia 62 1 (.t 60) (.t 61)⟩,
                          ⟨none, .ld 63 false 1 (.t 62)⟩,
                          ⟨none, .mv 4 (.t 55)⟩,
                          ⟨none, .mv 5 (.t 56)⟩,
                          ⟨none, .mv 6 (.t 63)⟩,
                          ⟨none, .mv 7 (.c (.sc (.int .i64 0)))⟩])
                        (.ret)))
                       (.skip)))))))
                   (.reg false [⟨none, .bin 64 .add (.t 37) (.c (.sc (.int .i64 1)))⟩,
                     ⟨none, .mv 37 (.t 64)⟩]))))))))))))))
           (.reg false [⟨none, .bin 65 .add (.t 32) (.c (.sc (.int .i64 1)))⟩,
             ⟨none, .mv 32 (.t 65)⟩])))))))))))
     ((.seq
      (.reg false [⟨none, .mv 4 (.c (.sc (.int .i64 0)))⟩,
        ⟨none, .mv 5 (.c (.sc (.int .i64 0)))⟩,
        ⟨none, .mv 6 (.c (.sc (.bool false)))⟩,
        ⟨none, .mv 7 (.c (.sc (.int .i64 6)))⟩])
      (.ret))))))))))
def K_imFirstPair (P : Program) (fno : Nat) : Prop := ∀ (m : Mo) (q : Eq2), AF P fno [eM m, eQ q] (.tup ([.own (eI (firstR m q).1), .own (eI (firstR m q).2.1), .own (eB (firstR m q).2.2.1), .own (eI (firstR m q).2.2.2)]))
theorem a_imFirstPair {P : Program} (hm : P.follows .mixedOrders = true) {g f1 f2 f3 : Nat} (hr : resF P g = some (66, k_imFirstPair f1 f2 f3, [.t 4, .t 5, .t 6, .t 7])) (hc1 : K_validModel P f1) (hc2 : K_imValidEquation P f2) (hc3 : K_relation P f3) : K_imFirstPair P g := by
  intro m q
  obtain ⟨a, b⟩ := q
  refine af_of_res hr hm rfl fun hb => ?_
  obtain ⟨ak, av, ann, aks, rfl⟩ := Ex.ex a
  obtain ⟨bk, bv, bnn, bks, rfl⟩ := Ex.ex b
  simp +contextual -implicitDefEqProofs only [k_imFirstPair, eM, eS, eI, eG, eB, eQ, D.at, D.size, D.sizeL, D.sub, Int.cast_ofNat_Int, Int.reduceLT, Int.reduceLE, Int.le_refl, Int.reduceBEq, Int.reduceEq, beq_self_eq_true, Int.reduceToNat, D.isAg, List.map_nil, List.map_cons, List.length_cons, List.length_nil, bne, Bool.not_true, Bool.not_false, Bool.true_and, Bool.false_and, Bool.and_true, Bool.and_false, Bool.true_or, Bool.false_or, Bool.or_true, Bool.or_false, go_sem, eI, eB, ↓reduceIte, Nat.reduceEqDiff, Nat.reduceAdd, Nat.reduceLeDiff, Nat.reduceMul, Nat.reduceBEq, Nat.reduceBneDiff, Nat.reduceLT, Nat.reduceSub, decide_true, decide_false, and_self, true_and, and_true, false_and, and_false, not_true_eq_false, not_false_eq_true, false_implies, true_implies, implies_true, ge_iff_le, Bool.false_eq_true, List.cons_append, List.nil_append, Int.ofNat_lt, List.length_map, Int.natCast_nonneg]
  refine callQ_self (ds := [eM m]) (by rfl) (hc1 m) ?_
  cases ho : okMo m
  · rw [show firstR m (.mk ak av ann aks, .mk bk bv bnn bks) = (0, 0, false, 1) by simp [firstR, ho]]
    simp +contextual -implicitDefEqProofs only [eM, eS, eI, eG, eB, eQ, D.at, D.size, D.sizeL, D.sub, Int.cast_ofNat_Int, Int.reduceLT, Int.reduceLE, Int.le_refl, Int.reduceBEq, Int.reduceEq, beq_self_eq_true, Int.reduceToNat, D.isAg, List.map_nil, List.map_cons, List.length_cons, List.length_nil, bne, Bool.not_true, Bool.not_false, Bool.true_and, Bool.false_and, Bool.and_true, Bool.and_false, Bool.true_or, Bool.false_or, Bool.or_true, Bool.or_false, go_sem, eI, eB, ↓reduceIte, Nat.reduceEqDiff, Nat.reduceAdd, Nat.reduceLeDiff, Nat.reduceMul, Nat.reduceBEq, Nat.reduceBneDiff, Nat.reduceLT, Nat.reduceSub, decide_true, decide_false, and_self, true_and, and_true, false_and, and_false, not_true_eq_false, not_false_eq_true, false_implies, true_implies, implies_true, ge_iff_le, Bool.false_eq_true, List.cons_append, List.nil_append, Int.ofNat_lt, List.length_map, Int.natCast_nonneg]
  simp +contextual -implicitDefEqProofs only [eM, eS, eI, eG, eB, eQ, D.at, D.size, D.sizeL, D.sub, Int.cast_ofNat_Int, Int.reduceLT, Int.reduceLE, Int.le_refl, Int.reduceBEq, Int.reduceEq, beq_self_eq_true, Int.reduceToNat, D.isAg, List.map_nil, List.map_cons, List.length_cons, List.length_nil, bne, Bool.not_true, Bool.not_false, Bool.true_and, Bool.false_and, Bool.and_true, Bool.and_false, Bool.true_or, Bool.false_or, Bool.or_true, Bool.or_false, go_sem, eI, eB, ↓reduceIte, Nat.reduceEqDiff, Nat.reduceAdd, Nat.reduceLeDiff, Nat.reduceMul, Nat.reduceBEq, Nat.reduceBneDiff, Nat.reduceLT, Nat.reduceSub, decide_true, decide_false, and_self, true_and, and_true, false_and, and_false, not_true_eq_false, not_false_eq_true, false_implies, true_implies, implies_true, ge_iff_le, Bool.false_eq_true, List.cons_append, List.nil_append, Int.ofNat_lt, List.length_map, Int.natCast_nonneg]
  refine callQ_self (ds := [eG m.1, eQ (.mk ak av ann aks, .mk bk bv bnn bks)]) (by rfl) (hc2 m.1 (.mk ak av ann aks, .mk bk bv bnn bks)) ?_
  cases hq : okQ m.1 (.mk ak av ann aks, .mk bk bv bnn bks)
  · rw [show firstR m (.mk ak av ann aks, .mk bk bv bnn bks) = (0, 0, false, 1) by simp [firstR, hq]]
    simp +contextual -implicitDefEqProofs only [eM, eS, eI, eG, eB, eQ, D.at, D.size, D.sizeL, D.sub, Int.cast_ofNat_Int, Int.reduceLT, Int.reduceLE, Int.le_refl, Int.reduceBEq, Int.reduceEq, beq_self_eq_true, Int.reduceToNat, D.isAg, List.map_nil, List.map_cons, List.length_cons, List.length_nil, bne, Bool.not_true, Bool.not_false, Bool.true_and, Bool.false_and, Bool.and_true, Bool.and_false, Bool.true_or, Bool.false_or, Bool.or_true, Bool.or_false, go_sem, eI, eB, ↓reduceIte, Nat.reduceEqDiff, Nat.reduceAdd, Nat.reduceLeDiff, Nat.reduceMul, Nat.reduceBEq, Nat.reduceBneDiff, Nat.reduceLT, Nat.reduceSub, decide_true, decide_false, and_self, true_and, and_true, false_and, and_false, not_true_eq_false, not_false_eq_true, false_implies, true_implies, implies_true, ge_iff_le, Bool.false_eq_true, List.cons_append, List.nil_append, Int.ofNat_lt, List.length_map, Int.natCast_nonneg]
  obtain ⟨n, hM⟩ := okMo_ok ho
  have hT := okQ_tree hq
  have n8 := hM.n8
  have hn : m.2.1.toNat = n := by rw [hM.pts]; rfl
  have hn' : m.2.1 = (n : Int) := hM.pts
  rw [show firstR m (.mk ak av ann aks, .mk bk bv bnn bks) = fpA (relE m (.mk ak av ann aks)) (xF (relE m (.mk ak av ann aks)) (relE m (.mk bk bv bnn bks)) n n) by simp [firstR, ho, hq, hn]]
  simp +contextual -implicitDefEqProofs only [eM, eS, eI, eG, eB, eQ, D.at, D.size, D.sizeL, D.sub, Int.cast_ofNat_Int, Int.reduceLT, Int.reduceLE, Int.le_refl, Int.reduceBEq, Int.reduceEq, beq_self_eq_true, Int.reduceToNat, D.isAg, List.map_nil, List.map_cons, List.length_cons, List.length_nil, bne, Bool.not_true, Bool.not_false, Bool.true_and, Bool.false_and, Bool.and_true, Bool.and_false, Bool.true_or, Bool.false_or, Bool.or_true, Bool.or_false, go_sem, eI, eB, ↓reduceIte, Nat.reduceEqDiff, Nat.reduceAdd, Nat.reduceLeDiff, Nat.reduceMul, Nat.reduceBEq, Nat.reduceBneDiff, Nat.reduceLT, Nat.reduceSub, decide_true, decide_false, and_self, true_and, and_true, false_and, and_false, not_true_eq_false, not_false_eq_true, false_implies, true_implies, implies_true, ge_iff_le, Bool.false_eq_true, List.cons_append, List.nil_append, Int.ofNat_lt, List.length_map, Int.natCast_nonneg]
  have hr0 := hc3 m n (.mk ak av ann aks) hM hT.1
  rw [eE_mk] at hr0
  refine callQ_self (ds := [eM m, .ag [.sc (.int .i64 ak), .sc (.int .i64 av), .ls ann 3 (aks.map eE)]]) (by rfl) hr0 ?_
  simp +contextual -implicitDefEqProofs only [eM, eS, eI, eG, eB, eQ, D.at, D.size, D.sizeL, D.sub, Int.cast_ofNat_Int, Int.reduceLT, Int.reduceLE, Int.le_refl, Int.reduceBEq, Int.reduceEq, beq_self_eq_true, Int.reduceToNat, D.isAg, List.map_nil, List.map_cons, List.length_cons, List.length_nil, bne, Bool.not_true, Bool.not_false, Bool.true_and, Bool.false_and, Bool.and_true, Bool.and_false, Bool.true_or, Bool.false_or, Bool.or_true, Bool.or_false, go_sem, eI, eB, ↓reduceIte, Nat.reduceEqDiff, Nat.reduceAdd, Nat.reduceLeDiff, Nat.reduceMul, Nat.reduceBEq, Nat.reduceBneDiff, Nat.reduceLT, Nat.reduceSub, decide_true, decide_false, and_self, true_and, and_true, false_and, and_false, not_true_eq_false, not_false_eq_true, false_implies, true_implies, implies_true, ge_iff_le, Bool.false_eq_true, List.cons_append, List.nil_append, Int.ofNat_lt, List.length_map, Int.natCast_nonneg]
  have hr3 := hc3 m n (.mk bk bv bnn bks) hM hT.2
  rw [eE_mk] at hr3
  refine callQ_self (ds := [eM m, .ag [.sc (.int .i64 bk), .sc (.int .i64 bv), .ls bnn 3 (bks.map eE)]]) (by rfl) hr3 ?_
  simp +contextual -implicitDefEqProofs only [eM, eS, eI, eG, eB, eQ, D.at, D.size, D.sizeL, D.sub, Int.cast_ofNat_Int, Int.reduceLT, Int.reduceLE, Int.le_refl, Int.reduceBEq, Int.reduceEq, beq_self_eq_true, Int.reduceToNat, D.isAg, List.map_nil, List.map_cons, List.length_cons, List.length_nil, bne, Bool.not_true, Bool.not_false, Bool.true_and, Bool.false_and, Bool.and_true, Bool.and_false, Bool.true_or, Bool.false_or, Bool.or_true, Bool.or_false, go_sem, eI, eB, ↓reduceIte, Nat.reduceEqDiff, Nat.reduceAdd, Nat.reduceLeDiff, Nat.reduceMul, Nat.reduceBEq, Nat.reduceBneDiff, Nat.reduceLT, Nat.reduceSub, decide_true, decide_false, and_self, true_and, and_true, false_and, and_false, not_true_eq_false, not_false_eq_true, false_implies, true_implies, implies_true, ge_iff_le, Bool.false_eq_true, List.cons_append, List.nil_append, Int.ofNat_lt, List.length_map, Int.natCast_nonneg]
  generalize relE m (.mk ak av ann aks) = A
  generalize relE m (.mk bk bv bnn bks) = B
  refine vc_onU (α := Nat) [4, 5, 6, 7, 10, 11, 32, 33, 34, 35, 36, 37, 38, 39, 40, 41, 42, 43, 44, 45, 46, 47, 48, 49, 50, 51, 52, 53, 54, 55, 56, 57, 58, 59, 60, 61, 62, 63, 64, 65] (fun x => [(32, .im none (.sc (.int .i64 x)))]) (fun x => [(29, .own (.ls (some false) 1 (rD n B))), (25, .own (.ls (some false) 1 (rD n A))), (3, .ar false (some false) 6 [.ag [.sc (.int .i64 (Ex.mk ak av ann aks).k), .sc (.int .i64 (Ex.mk ak av ann aks).n), .ls (Ex.mk ak av ann aks).nn 3 ((Ex.mk ak av ann aks).ks.map eE), .sc (.int .i64 (Ex.mk bk bv bnn bks).k), .sc (.int .i64 (Ex.mk bk bv bnn bks).n), .ls (Ex.mk bk bv bnn bks).nn 3 ((Ex.mk bk bv bnn bks).ks.map eE)]]), (2, .ar false (some false) 5 [.ag [.sc (.int .i64 m.1.1), .sc (.int .i64 m.1.2), .sc (.int .i64 m.2.1), .ls m.2.2.1.1 1 (m.2.2.1.2.map (eS 1 eB)), .ls m.2.2.2.1 1 (m.2.2.2.2.map (eS 1 (eS 1 eB)))]])]) (fun x => x ≤ n ∧ xF A B n n = xF A B n (n - x)) (fun x => n - x) 0 (Ent.to [] (by simp only [go_sem, ↓reduceIte, Nat.reduceEqDiff, Nat.reduceBEq, Nat.reduceBneDiff, Bool.false_eq_true]; rfl) rfl (by simp [hn']) (by rfl) (by simp only [subEnv, go_sem, ↓reduceIte, Nat.reduceEqDiff, Nat.reduceBEq, keep, memN, Bool.or_false, Bool.false_or, Bool.or_self, Bool.false_eq_true] <;> simp)) ⟨Nat.zero_le _, rfl⟩ ?_
  rintro x ⟨hx0, hx1⟩
  by_cases hx : x < n
  · rw [xF_step hx] at hx1
    have b1 := rD_at (R := A) hx
    have b3 := rD_at (R := B) hx
    simp +contextual -implicitDefEqProofs only [hx, hn', eM, eS, eI, eG, eB, eQ, at0, D.size, D.sizeL, D.sub, Int.cast_ofNat_Int, Int.reduceLT, Int.reduceLE, Int.le_refl, Int.reduceBEq, Int.reduceEq, beq_self_eq_true, Int.reduceToNat, D.isAg, List.map_nil, List.map_cons, List.length_cons, List.length_nil, bne, Bool.not_true, Bool.not_false, Bool.true_and, Bool.false_and, Bool.and_true, Bool.and_false, Bool.true_or, Bool.false_or, Bool.or_true, Bool.or_false, go_sem, eI, eB, ↓reduceIte, Nat.reduceEqDiff, Nat.reduceAdd, Nat.reduceLeDiff, Nat.reduceMul, Nat.reduceBEq, Nat.reduceBneDiff, Nat.reduceLT, Nat.reduceSub, decide_true, decide_false, and_self, true_and, and_true, false_and, and_false, not_true_eq_false, not_false_eq_true, false_implies, true_implies, implies_true, ge_iff_le, Bool.false_eq_true, List.cons_append, List.nil_append, Int.ofNat_lt, List.length_map, Int.natCast_nonneg]
    refine vc_onU (α := Nat) [4, 5, 6, 7, 11, 37, 38, 39, 40, 41, 42, 43, 44, 45, 46, 47, 48, 49, 50, 51, 52, 53, 54, 55, 56, 57, 58, 59, 60, 61, 62, 63, 64] (fun y => [(37, .im none (.sc (.int .i64 y)))]) (fun y => [(29, .own (.ls (some false) 1 (rD n B))), (25, .own (.ls (some false) 1 (rD n A))), (3, .ar false (some false) 6 [.ag [.sc (.int .i64 (Ex.mk ak av ann aks).k), .sc (.int .i64 (Ex.mk ak av ann aks).n), .ls (Ex.mk ak av ann aks).nn 3 ((Ex.mk ak av ann aks).ks.map eE), .sc (.int .i64 (Ex.mk bk bv bnn bks).k), .sc (.int .i64 (Ex.mk bk bv bnn bks).n), .ls (Ex.mk bk bv bnn bks).nn 3 ((Ex.mk bk bv bnn bks).ks.map eE)]]), (2, .ar false (some false) 5 [.ag [.sc (.int .i64 m.1.1), .sc (.int .i64 m.1.2), .sc (.int .i64 m.2.1), .ls m.2.2.1.1 1 (m.2.2.1.2.map (eS 1 eB)), .ls m.2.2.2.1 1 (m.2.2.2.2.map (eS 1 (eS 1 eB)))]])]) (fun y => y ≤ n ∧ yF (fun y => A x y != B x y) n n = yF (fun y => A x y != B x y) n (n - y)) (fun y => n - y) 0 (Ent.to [] (by simp only [go_sem, ↓reduceIte, Nat.reduceEqDiff, Nat.reduceBEq, Nat.reduceBneDiff, Bool.false_eq_true]; rfl) rfl (by simp [hn']) (by rfl) (by simp only [subEnv, go_sem, ↓reduceIte, Nat.reduceEqDiff, Nat.reduceBEq, keep, memN, Bool.or_false, Bool.false_or, Bool.or_self, Bool.false_eq_true] <;> simp)) ⟨Nat.zero_le _, rfl⟩ ?_
    rintro y ⟨hy0, hy1⟩
    by_cases hy : y < n
    · rw [yF_step hy] at hy1
      have b2 := rRow_at (f := A x) hy
      have b4 := rRow_at (f := B x) hy
      by_cases hne : A x y = B x y
      · rw [if_neg (by simp [hne])] at hy1
        cases h1 : A x y
        all_goals
          rw [h1] at b2 hne
          rw [← hne] at b4
          simp +contextual -implicitDefEqProofs only [hx, hy, hn', b1, b2, b3, b4, rD_len, rRow_len, eM, eS, eI, eG, eB, eQ, at0, D.size, D.sizeL, D.sub, Int.cast_ofNat_Int, Int.reduceLT, Int.reduceLE, Int.le_refl, Int.reduceBEq, Int.reduceEq, beq_self_eq_true, Int.reduceToNat, D.isAg, List.map_nil, List.map_cons, List.length_cons, List.length_nil, bne, Bool.not_true, Bool.not_false, Bool.true_and, Bool.false_and, Bool.and_true, Bool.and_false, Bool.true_or, Bool.false_or, Bool.or_true, Bool.or_false, go_sem, eI, eB, ↓reduceIte, Nat.reduceEqDiff, Nat.reduceAdd, Nat.reduceLeDiff, Nat.reduceMul, Nat.reduceBEq, Nat.reduceBneDiff, Nat.reduceLT, Nat.reduceSub, decide_true, decide_false, and_self, true_and, and_true, false_and, and_false, not_true_eq_false, not_false_eq_true, false_implies, true_implies, implies_true, ge_iff_le, Bool.false_eq_true, List.cons_append, List.nil_append, Int.ofNat_lt, List.length_map, Int.natCast_nonneg]
          rw [wrap_i64 (by omega) (by omega)]
          exact ⟨y + 1, ⟨by omega, hy1⟩, by omega, Ent.to [] (by simp only [go_sem, ↓reduceIte, Nat.reduceEqDiff, Nat.reduceBEq, Nat.reduceBneDiff, Bool.false_eq_true]; rfl) rfl (by simp [hn']) (by rfl) (by simp only [subEnv, go_sem, ↓reduceIte, Nat.reduceEqDiff, Nat.reduceBEq, keep, memN, Bool.or_false, Bool.false_or, Bool.or_self, Bool.false_eq_true] <;> simp)⟩
      · rw [if_pos (by simpa using hne)] at hy1
        rw [hy1] at hx1
        rw [hx1]
        cases h1 : A x y
        · have h2 : B x y = true := by cases h : B x y; (exact absurd (h1.trans h.symm) hne); rfl
          rw [h1] at b2
          rw [h2] at b4
          simp +contextual -implicitDefEqProofs only [fpA, beq_ft, beq_tf, h1, hx, hy, hn', b1, b2, b3, b4, rD_len, rRow_len, eM, eS, eI, eG, eB, eQ, at0, D.size, D.sizeL, D.sub, Int.cast_ofNat_Int, Int.reduceLT, Int.reduceLE, Int.le_refl, Int.reduceBEq, Int.reduceEq, beq_self_eq_true, Int.reduceToNat, D.isAg, List.map_nil, List.map_cons, List.length_cons, List.length_nil, bne, Bool.not_true, Bool.not_false, Bool.true_and, Bool.false_and, Bool.and_true, Bool.and_false, Bool.true_or, Bool.false_or, Bool.or_true, Bool.or_false, go_sem, eI, eB, ↓reduceIte, Nat.reduceEqDiff, Nat.reduceAdd, Nat.reduceLeDiff, Nat.reduceMul, Nat.reduceBEq, Nat.reduceBneDiff, Nat.reduceLT, Nat.reduceSub, decide_true, decide_false, and_self, true_and, and_true, false_and, and_false, not_true_eq_false, not_false_eq_true, false_implies, true_implies, implies_true, ge_iff_le, Bool.false_eq_true, List.cons_append, List.nil_append, Int.ofNat_lt, List.length_map, Int.natCast_nonneg]
        · have h2 : B x y = false := by cases h : B x y; rfl; exact absurd (h1.trans h.symm) hne
          rw [h1] at b2
          rw [h2] at b4
          simp +contextual -implicitDefEqProofs only [fpA, beq_ft, beq_tf, h1, hx, hy, hn', b1, b2, b3, b4, rD_len, rRow_len, eM, eS, eI, eG, eB, eQ, at0, D.size, D.sizeL, D.sub, Int.cast_ofNat_Int, Int.reduceLT, Int.reduceLE, Int.le_refl, Int.reduceBEq, Int.reduceEq, beq_self_eq_true, Int.reduceToNat, D.isAg, List.map_nil, List.map_cons, List.length_cons, List.length_nil, bne, Bool.not_true, Bool.not_false, Bool.true_and, Bool.false_and, Bool.and_true, Bool.and_false, Bool.true_or, Bool.false_or, Bool.or_true, Bool.or_false, go_sem, eI, eB, ↓reduceIte, Nat.reduceEqDiff, Nat.reduceAdd, Nat.reduceLeDiff, Nat.reduceMul, Nat.reduceBEq, Nat.reduceBneDiff, Nat.reduceLT, Nat.reduceSub, decide_true, decide_false, and_self, true_and, and_true, false_and, and_false, not_true_eq_false, not_false_eq_true, false_implies, true_implies, implies_true, ge_iff_le, Bool.false_eq_true, List.cons_append, List.nil_append, Int.ofNat_lt, List.length_map, Int.natCast_nonneg]
    · obtain rfl : y = n := by omega
      rw [Nat.sub_self] at hy1
      simp only [yF] at hy1
      rw [hy1] at hx1
      simp +contextual -implicitDefEqProofs only [hy, hn', eM, eS, eI, eG, eB, eQ, at0, D.size, D.sizeL, D.sub, Int.cast_ofNat_Int, Int.reduceLT, Int.reduceLE, Int.le_refl, Int.reduceBEq, Int.reduceEq, beq_self_eq_true, Int.reduceToNat, D.isAg, List.map_nil, List.map_cons, List.length_cons, List.length_nil, bne, Bool.not_true, Bool.not_false, Bool.true_and, Bool.false_and, Bool.and_true, Bool.and_false, Bool.true_or, Bool.false_or, Bool.or_true, Bool.or_false, go_sem, eI, eB, ↓reduceIte, Nat.reduceEqDiff, Nat.reduceAdd, Nat.reduceLeDiff, Nat.reduceMul, Nat.reduceBEq, Nat.reduceBneDiff, Nat.reduceLT, Nat.reduceSub, decide_true, decide_false, and_self, true_and, and_true, false_and, and_false, not_true_eq_false, not_false_eq_true, false_implies, true_implies, implies_true, ge_iff_le, Bool.false_eq_true, List.cons_append, List.nil_append, Int.ofNat_lt, List.length_map, Int.natCast_nonneg]
      rw [wrap_i64 (by omega) (by omega)]
      exact ⟨x + 1, ⟨by omega, hx1⟩, by omega, Ent.to [] (by simp only [go_sem, ↓reduceIte, Nat.reduceEqDiff, Nat.reduceBEq, Nat.reduceBneDiff, Bool.false_eq_true]; rfl) rfl (by simp [hn']) (by rfl) (by simp only [subEnv, go_sem, ↓reduceIte, Nat.reduceEqDiff, Nat.reduceBEq, keep, memN, Bool.or_false, Bool.false_or, Bool.or_self, Bool.false_eq_true] <;> simp)⟩
  · obtain rfl : x = n := by omega
    rw [Nat.sub_self] at hx1
    rw [hx1]
    simp +contextual -implicitDefEqProofs only [hx, hn', fpA, xF, eM, eS, eI, eG, eB, eQ, at0, D.size, D.sizeL, D.sub, Int.cast_ofNat_Int, Int.reduceLT, Int.reduceLE, Int.le_refl, Int.reduceBEq, Int.reduceEq, beq_self_eq_true, Int.reduceToNat, D.isAg, List.map_nil, List.map_cons, List.length_cons, List.length_nil, bne, Bool.not_true, Bool.not_false, Bool.true_and, Bool.false_and, Bool.and_true, Bool.and_false, Bool.true_or, Bool.false_or, Bool.or_true, Bool.or_false, go_sem, eI, eB, ↓reduceIte, Nat.reduceEqDiff, Nat.reduceAdd, Nat.reduceLeDiff, Nat.reduceMul, Nat.reduceBEq, Nat.reduceBneDiff, Nat.reduceLT, Nat.reduceSub, decide_true, decide_false, and_self, true_and, and_true, false_and, and_false, not_true_eq_false, not_false_eq_true, false_implies, true_implies, implies_true, ge_iff_le, Bool.false_eq_true, List.cons_append, List.nil_append, Int.ofNat_lt, List.length_map, Int.natCast_nonneg]
end Go.Ax
