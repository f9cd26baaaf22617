/- Contracts of functions of the seat, proved over the engine. No condition. -/
import Derived.Test.YtbnlielpckndkaaX42
import Derived.Test.YtbnlielpckndkaaX6
set_option linter.unusedSimpArgs false
set_option linter.unusedVariables false
set_option linter.unnecessarySimpa false
namespace Go.Ax
set_option linter.unusedSimpArgs false
set_option maxRecDepth 20000
set_option maxHeartbeats 4000000
def atm (m : Mo) (x : Nat) : Int := atomAt m.2.2.1.2 x m.2.2.1.2.length
def atR (m : Mo) (v : Int) : Rel := diagR fun x => atm m x == v
def woAt (w : Wo) (i : Nat) : Int := w.1.2.getD i 0
def wAct (m : Mo) (w : Wo) (i : Nat) : SL (SL Bool) := actOf m (w.2.2.getD i 0)

def runU (m : Mo) (n : Nat) (w : Wo) : Nat → Rel
  | 0 => atR m (woAt w 0)
  | k + 1 => fun x y => dotR n (runU m n w k) (relOf (wAct m w k)) x y && (atm m y == woAt w (k + 1))
def runS (z : Option Bool) (m : Mo) (w : Wo) : SL (SL Bool) × Int := if okMo m = true ∧ okWo m.1 w = true then (rTab m.2.1.toNat (runU m m.2.1.toNat w w.2.2.length), 0) else ((z, []), 1)
theorem dot_at {n : Nat} {m : Mo} {v : Int} {R : Rel} : rD n (dotR n R (atR m v)) = rD n (fun x y => R x y && (atm m y == v)) := rD_congr fun x y _ hy => by
  cases h : (R x y && (atm m y == v)) with
  | true =>
    simp only [Bool.and_eq_true] at h
    exact dotR_true.2 ⟨y, hy, h.1, by simp [atR, diagR, h.2]⟩
  | false =>
    cases h2 : dotR n R (atR m v) x y with
    | false => rfl
    | true =>
      obtain ⟨z, _, h3, h4⟩ := dotR_true.1 h2
      simp only [atR, diagR, Bool.and_eq_true, beq_iff_eq] at h4
      obtain ⟨rfl, h5⟩ := h4
      simp [h3, h5] at h
structure WoOk (m : Mo) (w : Wo) : Prop where
  small : w.2.2.length ≤ 10
  len : w.1.2.length = w.2.2.length + 1
  act : ∀ i, i < w.2.2.length → 0 ≤ w.2.2.getD i 0 ∧ (w.2.2.getD i 0).toNat < m.2.2.2.2.length
theorem okWo_ok {m : Mo} {n : Nat} {w : Wo} (hM : MoOk m n) (h : okWo m.1 w = true) : WoOk m w := by
  have hg := hM.g
  have al := hM.al
  simp only [okG, Bool.and_eq_true, isIn_iff'] at hg
  simp only [okWo, traceOk, lenIs, allIn, Bool.and_eq_true, decide_eq_true_eq, beq_iff_eq, List.all_eq_true, isIn_iff'] at h
  refine ⟨by omega, by omega, fun i hi => ?_⟩
  have := h.2.2.2 _ (getD_mem (d := 0) hi)
  omega
theorem runU_imp {m : Mo} {n k : Nat} {w : Wo} : rD n (dotR n (dotR n (runU m n w k) (relOf (wAct m w k))) (atR m (woAt w (k + 1)))) = rD n (runU m n w (k + 1)) := dot_at
theorem runS_eq {z : Option Bool} {m : Mo} {n : Nat} {w : Wo} (h1 : okMo m = true) (h2 : okWo m.1 w = true) (hM : MoOk m n) : runS z m w = (rTab n (runU m n w w.2.2.length), 0) := by
  have hn : m.2.1.toNat = n := by rw [hM.pts]; rfl
  simp [runS, h1, h2, hn]
theorem comp_G {P : Program} {f : Nat} (h : K_composed P f) {n : Nat} {A : Rel} {b : SL (SL Bool)} (hn : n ≤ 1000) (hb : Sq n b) : AF P f [.ls (some false) 1 (rD n A), eS 1 (eS 1 eB) b] (.own (.ls (some false) 1 (rD n (dotR n A (relOf b))))) := by
  have := h n (rTab n A) b hn rTab_sq hb
  rw [rD_eq, rD_eq] at this
  rw [show rD n (dotR n (relOf (rTab n A)) (relOf b)) = rD n (dotR n A (relOf b)) from rD_congr fun _ _ hx _ => dotU_congr (fun _ hk => relOf_tab hx hk) (fun _ _ => rfl)] at this
  exact this
theorem dot_G {P : Program} {f : Nat} (h : K_l05Dot P f) {n : Nat} {A : Rel} {b : SL (SL Bool)} (hn : n ≤ 1000) (hb : Sq n b) : AF P f [.ls (some false) 1 (rD n A), eS 1 (eS 1 eB) b] (.arr 1 (rD n (dotR n A (relOf b)))) := by
  have := h n (rTab n A) b hn rTab_sq hb
  rw [rD_eq] at this
  rw [show rD n (dotR n (relOf (rTab n A)) (relOf b)) = rD n (dotR n A (relOf b)) from rD_congr fun _ _ hx _ => dotU_congr (fun _ hk => relOf_tab hx hk) (fun _ _ => rfl)] at this
  exact this
theorem atm_pre {m : Mo} {n x : Nat} (hM : MoOk m n) (hx : x < n) : ∀ r ∈ m.2.2.1.2, ((x : Nat) : Int) < (r.2.length : Int) := fun r hr => by have := hM.tr r hr; omega

def k_runsOf11 (f1 : Nat) : RC :=
 (.seq
  (.reg false [⟨none, .mv 7 (.c (.sc (.bool false)))⟩])
  ((.seq
   (.reg true [⟨none, .mv 8 (.t 0)⟩,
     ⟨none, .mv 9 (.t 1)⟩,
     ⟨none, .bin 10 .eql (.t 8) (.t 9)⟩,
     ⟨none, .mv 11 (.t 10)⟩,
     ⟨some (11, true), .ld 12 true 5 (.t 2)⟩,
     ⟨some (11, true), .mv 13 (.t 0)⟩,
     ⟨some (11, true), .call (some 14) f1 [(.t 12), (.t 13)]⟩,
     ⟨some (11, true), .fa 15 0 (.t 3)⟩,
     ⟨some (11, true), .ld 16 false 1 (.t 15)⟩,
     ⟨some (11, true), .ld 17 false 1 (.t 4)⟩,
     ⟨some (11, true), .ia 18 1 (.t 16) (.t 17)⟩,
     ⟨some (11, true), .ld 19 false 1 (.t 18)⟩,
     ⟨some (11, true), .bin 20 .eql (.t 14) (.t 19)⟩,
     ⟨none, .pick 21 (.t 11) (.t 20) (.c (.sc (.bool false)))⟩,
     ⟨none, .mv 7 (.t 21)⟩])
   (.ret))))
def K_runsOf11 (P : Program) (fno : Nat) : Prop := ∀ (m : Mo) (n : Nat) (w : Wo) (i x y : Nat) (hM : MoOk m n) (hx : x < n) (hi : i < w.1.2.length), AF P fno [eI x, eI y, .pt (eM m) 0, .pt (eWo w) 0, .pt (eI i) 0] (.own (eB (atR m (woAt w i) x y)))
theorem a_runsOf11 {P : Program} (hm : P.follows .mixedOrders = true) {g f1 : Nat} (hr : resF P g = some (22, k_runsOf11 f1, [.t 7])) (hc1 : K_atomOf P f1) : K_runsOf11 P g := by
  intro m n w i x y hM hx hi
  have hpre := atm_pre hM hx
  have hat := hc1 m (x : Int) (by omega) hpre
  have e1 := at_mapD (f := eI) (d := 0) hi
  refine af_of_res hr hm rfl fun hb => ?_
  cases hv : (x == y)
  · rw [show atR m (woAt w i) x y = false by simp [atR, diagR, hv]]
    simp +contextual -implicitDefEqProofs only [k_runsOf11, eWo, at0, nat_beq, hv, eM, eS, eI, eG, eB, eQ, at0, D.size, D.sizeL, D.sub, Int.cast_ofNat_Int, Int.reduceLT, Int.reduceLE, Int.le_refl, Int.reduceBEq, Int.reduceEq, beq_self_eq_true, Int.reduceToNat, D.isAg, List.map_nil, List.map_cons, List.length_cons, List.length_nil, bne, Bool.not_true, Bool.not_false, Bool.true_and, Bool.false_and, Bool.and_true, Bool.and_false, Bool.true_or, Bool.false_or, Bool.or_true, Bool.or_false, go_sem, eI, eB, ↓reduceIte, Nat.reduceEqDiff, Nat.reduceAdd, Nat.reduceLeDiff, Nat.reduceMul, Nat.reduceBEq, Nat.reduceBneDiff, Nat.reduceLT, Nat.reduceSub, decide_true, decide_false, and_self, true_and, and_true, false_and, and_false, not_true_eq_false, not_false_eq_true, false_implies, true_implies, implies_true, ge_iff_le, Bool.false_eq_true, List.cons_append, List.nil_append, Int.ofNat_lt, List.length_map, Int.natCast_nonneg]
  · rw [show atR m (woAt w i) x y = (atm m x == woAt w i) by simp [atR, diagR, hv]]
    simp +contextual -implicitDefEqProofs only [k_runsOf11, eWo, at0, nat_beq, hv, eM, eS, eI, eG, eB, eQ, at0, D.size, D.sizeL, D.sub, Int.cast_ofNat_Int, Int.reduceLT, Int.reduceLE, Int.le_refl, Int.reduceBEq, Int.reduceEq, beq_self_eq_true, Int.reduceToNat, D.isAg, List.map_nil, List.map_cons, List.length_cons, List.length_nil, bne, Bool.not_true, Bool.not_false, Bool.true_and, Bool.false_and, Bool.and_true, Bool.and_false, Bool.true_or, Bool.false_or, Bool.or_true, Bool.or_false, go_sem, eI, eB, ↓reduceIte, Nat.reduceEqDiff, Nat.reduceAdd, Nat.reduceLeDiff, Nat.reduceMul, Nat.reduceBEq, Nat.reduceBneDiff, Nat.reduceLT, Nat.reduceSub, decide_true, decide_false, and_self, true_and, and_true, false_and, and_false, not_true_eq_false, not_false_eq_true, false_implies, true_implies, implies_true, ge_iff_le, Bool.false_eq_true, List.cons_append, List.nil_append, Int.ofNat_lt, List.length_map, Int.natCast_nonneg]
    refine callQ_self (ds := [eM m, eI x]) (by rfl) hat ?_
    simp +contextual -implicitDefEqProofs only [e1, hi, eWo, at0, eM, eS, eI, eG, eB, eQ, at0, D.size, D.sizeL, D.sub, Int.cast_ofNat_Int, Int.reduceLT, Int.reduceLE, Int.le_refl, Int.reduceBEq, Int.reduceEq, beq_self_eq_true, Int.reduceToNat, D.isAg, List.map_nil, List.map_cons, List.length_cons, List.length_nil, bne, Bool.not_true, Bool.not_false, Bool.true_and, Bool.false_and, Bool.and_true, Bool.and_false, Bool.true_or, Bool.false_or, Bool.or_true, Bool.or_false, go_sem, eI, eB, ↓reduceIte, Nat.reduceEqDiff, Nat.reduceAdd, Nat.reduceLeDiff, Nat.reduceMul, Nat.reduceBEq, Nat.reduceBneDiff, Nat.reduceLT, Nat.reduceSub, decide_true, decide_false, and_self, true_and, and_true, false_and, and_false, not_true_eq_false, not_false_eq_true, false_implies, true_implies, implies_true, ge_iff_le, Bool.false_eq_true, List.cons_append, List.nil_append, Int.ofNat_lt, List.length_map, Int.natCast_nonneg]
    exact D.Le.refl _

def k_runsOf1 (f1 f2 : Nat) : RC :=
 (.seq
  (.reg false [⟨none, .box 3 1 (.t 0)⟩,
    ⟨none, .mv 4 (.c (.ls (some true) 1 []))⟩])
  ((.seq
   (.reg false [⟨none, .fa 5 2 (.t 1)⟩,
     ⟨none, .ld 6 false 1 (.t 5)⟩,
     ⟨none, .mkf 7 f2 [(.t 1), (.t 2), (.t 3)]⟩,
     ⟨none, .call (some 8) f1 [(.t 6), (.t 7)]⟩,
     ⟨none, .mv 4 (.t 8)⟩])
   (.ret))))
def K_runsOf1 (P : Program) (fno : Nat) : Prop := ∀ (m : Mo) (n : Nat) (w : Wo) (i : Nat) (hM : MoOk m n) (hi : i < w.1.2.length), AF P fno [eI i, .pt (eM m) 0, .pt (eWo w) 0] (.own (.ls (some false) 1 (rD n (atR m (woAt w i)))))
theorem a_runsOf1 {P : Program} (hm : P.follows .mixedOrders = true) {g f1 f2 : Nat} (hr : resF P g = some (9, k_runsOf1 f1 f2, [.t 4])) (hc1 : K_tableB P f1) (hc2 : K_runsOf11 P f2) : K_runsOf1 P g := by
  intro m n w i hM hi
  obtain ⟨gs, p, T, A⟩ := m
  obtain rfl : p = n := hM.pts
  have n8 := hM.n8
  refine af_of_res hr hm rfl fun hb => ?_
  simp +contextual -implicitDefEqProofs only [k_runsOf1, at0, eM, eS, eI, eG, eB, eQ, at0, D.size, D.sizeL, D.sub, Int.cast_ofNat_Int, Int.reduceLT, Int.reduceLE, Int.le_refl, Int.reduceBEq, Int.reduceEq, beq_self_eq_true, Int.reduceToNat, D.isAg, List.map_nil, List.map_cons, List.length_cons, List.length_nil, bne, Bool.not_true, Bool.not_false, Bool.true_and, Bool.false_and, Bool.and_true, Bool.and_false, Bool.true_or, Bool.false_or, Bool.or_true, Bool.or_false, go_sem, eI, eB, ↓reduceIte, Nat.reduceEqDiff, Nat.reduceAdd, Nat.reduceLeDiff, Nat.reduceMul, Nat.reduceBEq, Nat.reduceBneDiff, Nat.reduceLT, Nat.reduceSub, decide_true, decide_false, and_self, true_and, and_true, false_and, and_false, not_true_eq_false, not_false_eq_true, false_implies, true_implies, implies_true, ge_iff_le, Bool.false_eq_true, List.cons_append, List.nil_append, Int.ofNat_lt, List.length_map, Int.natCast_nonneg]
  refine callQ_self (ds := [eI n, .fn f2 [.pt (eM (gs, (n : Int), T, A)) 0, .pt (eWo w) 0, .pt (eI i) 0]]) (by rfl) (hc1 n f2 _ (atR (gs, (n : Int), T, A) (woAt w i)) (by omega) (fun x y hx _ => hc2 (gs, (n : Int), T, A) n w i x y hM hx hi)) ?_
  rw [show ((some false, tabL n fun x => (some false, tabL n (atR (gs, (n : Int), T, A) (woAt w i) x))) : SL (SL Bool)) = rTab n (atR (gs, (n : Int), T, A) (woAt w i)) from rfl, rD_eq]
  simp +contextual -implicitDefEqProofs only [go_sem, eI, eB, ↓reduceIte, Nat.reduceEqDiff, Nat.reduceAdd, Nat.reduceLeDiff, Nat.reduceMul, Nat.reduceBEq, Nat.reduceBneDiff, Nat.reduceLT, Nat.reduceSub, decide_true, decide_false, and_self, true_and, and_true, false_and, and_false, not_true_eq_false, not_false_eq_true, false_implies, true_implies, implies_true, ge_iff_le, Bool.false_eq_true, List.cons_append, List.nil_append, Int.ofNat_lt, List.length_map, Int.natCast_nonneg]
theorem rTab_fst {n : Nat} {R : Rel} : (rTab n R).1 = some false := rfl
theorem rTab_map {n : Nat} {R : Rel} : (rTab n R).2.map (eS 1 eB) = rD n R := (D.ls.inj (rD_eq (n := n) (R := R))).2.2

def k_imRunsOf (f1 f2 f3 f4 : Nat) : RC :=
 (.seq
  (.reg false [⟨none, .box 2 5 (.t 0)⟩,
    ⟨none, .box 3 2 (.t 1)⟩,
    ⟨none, .mv 4 (.c (.ls (some true) 1 []))⟩,
    ⟨none, .mv 5 (.c (.sc (.int .i64 0)))⟩])
  ((.seq
   ((.seq
    (.reg false [⟨none, .ld 10 true 5 (.t 2)⟩,
      ⟨none, .call (some 11) f1 [(.t 10)]⟩,
      ⟨none, .un 12 .not (.t 11)⟩,
      ⟨none, .mv 13 (.t 12)⟩,
      ⟨some (13, false), .fa 14 0 (.t 2)⟩,
      ⟨some (13, false), .ld 15 true 2 (.t 14)⟩,
      ⟨some (13, false), .ld 16 true 2 (.t 3)⟩,
      ⟨some (13, false), .call (some 17) f2 [(.t 15), (.t 16)]⟩,
      ⟨some (13, false), .un 18 .not (.t 17)⟩,
      ⟨none, .pick 19 (.t 13) (.c (.sc (.bool true))) (.t 18)⟩])
    (.cond (.t 19)
     ((.seq
      (.reg false [⟨none, .mv 4 (.c (.ls (some true) 1 []))⟩,
        ⟨none, .mv 5 (.c (.sc (.int .i64 1)))⟩])
      (.ret)))
     (.skip))))
   ((.seq
    (.reg false [⟨none, .mkf 20 f4 [(.t 2), (.t 3)]⟩,
      ⟨none, .mv 6 (.t 20)⟩])
    ((.seq
     (.reg false [⟨none, .mv 21 (.t 6)⟩,
       ⟨none, .calv (some 22) (.t 21) [(.c (.sc (.int .i64 0)))]⟩,
       ⟨none, .mv 7 (.t 22)⟩])
     ((.seq
      ((.seq
       (.reg false [⟨none, .fa 23 1 (.t 3)⟩,
         ⟨none, .ld 24 false 1 (.t 23)⟩,
         ⟨none, .len 25 (.t 24)⟩,
         ⟨none, .mv 26 (.c (.sc (.int .i64 0)))⟩])
       (.blk 0
        (.loop
         ((.seq
          (.reg false [⟨none, .bin 27 .lss (.t 26) (.t 25)⟩])
          ((.seq
           (.cond (.t 27)
            (.skip)
            (.exit 0))
           ((.seq
            (.blk 1
             ((.seq
              (.reg false [⟨none, .mv 28 (.t 26)⟩,
                ⟨none, .ia 29 1 (.t 24) (.t 26)⟩,
                ⟨none, .ld 30 false 1 (.t 29)⟩,
                ⟨none, .mv 8 (.t 28)⟩,
                ⟨none, .mv 9 (.t 30)⟩])
              (.reg false [⟨none, .mv 31 (.t 7)⟩,
                ⟨none, .fa 32 4 (.t 2)⟩,
                ⟨none, .ld 33 false 1 (.t 32)⟩,
                ⟨none, .mv 34 (.t 9)⟩,
                ⟨none, .ia 35 1 (.t 33) (.t 34)⟩,
                ⟨none, .ld 36 false 1 (.t 35)⟩,
                ⟨none, .call (some 37) f3 [(.t 31), (.t 36)]⟩,
                ⟨none, .mv 38 (.t 6)⟩,
                ⟨none, .mv 39 (.t 8)⟩,
                ⟨none, .bin 40 .add (.t 39) (.c (.sc (.int .i64 1)))⟩,
                ⟨none, .calv (some 41) (.t 38) [(.t 40)]⟩,
                ⟨none, .call (some 42) f3 [(.t 37), (.t 41)]⟩,
                ⟨none, .mv 7 (.t 42)⟩]))))
            (.reg false [⟨none, .bin 43 .add (.t 26) (.c (.sc (.int .i64 1)))⟩,
              ⟨none, .mv 26 (.t 43)⟩])))))))))))
      ((.seq
       (.reg false [⟨none, .mv 44 (.t 7)⟩,
         ⟨none, .mv 4 (.t 44)⟩,
         ⟨none, .mv 5 (.c (.sc (.int .i64 0)))⟩])
       (.ret))))))))))))
def K_imRunsOf (P : Program) (fno : Nat) : Prop := ∀ (m : Mo) (w : Wo), AF P fno [eM m, eWo w] (.tup ([.own (eS 1 (eS 1 eB) (runS (some true) m w).1), .own (eI (runS (some true) m w).2)]))
theorem a_imRunsOf {P : Program} (hm : P.follows .mixedOrders = true) {g f1 f2 f3 f4 : Nat} (hr : resF P g = some (45, k_imRunsOf f1 f2 f3 f4, [.t 4, .t 5])) (hc1 : K_validModel P f1) (hc2 : K_isWord P f2) (hc3 : K_composed P f3) (hc4 : K_runsOf1 P f4) : K_imRunsOf P g := by
  intro m w
  refine af_of_res hr hm rfl fun hb => ?_
  simp +contextual -implicitDefEqProofs only [k_imRunsOf, eWo, at0, eM, eS, eI, eG, eB, eQ, at0, D.size, D.sizeL, D.sub, Int.cast_ofNat_Int, Int.reduceLT, Int.reduceLE, Int.le_refl, Int.reduceBEq, Int.reduceEq, beq_self_eq_true, Int.reduceToNat, D.isAg, List.map_nil, List.map_cons, List.length_cons, List.length_nil, bne, Bool.not_true, Bool.not_false, Bool.true_and, Bool.false_and, Bool.and_true, Bool.and_false, Bool.true_or, Bool.false_or, Bool.or_true, Bool.or_false, go_sem, eI, eB, ↓reduceIte, Nat.reduceEqDiff, Nat.reduceAdd, Nat.reduceLeDiff, Nat.reduceMul, Nat.reduceBEq, Nat.reduceBneDiff, Nat.reduceLT, Nat.reduceSub, decide_true, decide_false, and_self, true_and, and_true, false_and, and_false, not_true_eq_false, not_false_eq_true, false_implies, true_implies, implies_true, ge_iff_le, Bool.false_eq_true, List.cons_append, List.nil_append, Int.ofNat_lt, List.length_map, Int.natCast_nonneg]
  refine callQ_self (ds := [eM m]) (by rfl) (hc1 m) ?_
  cases ho : okMo m
  · rw [show runS (some true) m w = (((some true), []), 1) by simp [runS, ho]]
    simp +contextual -implicitDefEqProofs only [eWo, at0, eM, eS, eI, eG, eB, eQ, at0, D.size, D.sizeL, D.sub, Int.cast_ofNat_Int, Int.reduceLT, Int.reduceLE, Int.le_refl, Int.reduceBEq, Int.reduceEq, beq_self_eq_true, Int.reduceToNat, D.isAg, List.map_nil, List.map_cons, List.length_cons, List.length_nil, bne, Bool.not_true, Bool.not_false, Bool.true_and, Bool.false_and, Bool.and_true, Bool.and_false, Bool.true_or, Bool.false_or, Bool.or_true, Bool.or_false, go_sem, eI, eB, ↓reduceIte, Nat.reduceEqDiff, Nat.reduceAdd, Nat.reduceLeDiff, Nat.reduceMul, Nat.reduceBEq, Nat.reduceBneDiff, Nat.reduceLT, Nat.reduceSub, decide_true, decide_false, and_self, true_and, and_true, false_and, and_false, not_true_eq_false, not_false_eq_true, false_implies, true_implies, implies_true, ge_iff_le, Bool.false_eq_true, List.cons_append, List.nil_append, Int.ofNat_lt, List.length_map, Int.natCast_nonneg]
  obtain ⟨n, hM⟩ := okMo_ok ho
  have hg := hM.g
  have n8 := hM.n8
  have n1 := hM.n1
  have hp := hM.pts
  simp +contextual -implicitDefEqProofs only [eWo, at0, eM, eS, eI, eG, eB, eQ, at0, D.size, D.sizeL, D.sub, Int.cast_ofNat_Int, Int.reduceLT, Int.reduceLE, Int.le_refl, Int.reduceBEq, Int.reduceEq, beq_self_eq_true, Int.reduceToNat, D.isAg, List.map_nil, List.map_cons, List.length_cons, List.length_nil, bne, Bool.not_true, Bool.not_false, Bool.true_and, Bool.false_and, Bool.and_true, Bool.and_false, Bool.true_or, Bool.false_or, Bool.or_true, Bool.or_false, go_sem, eI, eB, ↓reduceIte, Nat.reduceEqDiff, Nat.reduceAdd, Nat.reduceLeDiff, Nat.reduceMul, Nat.reduceBEq, Nat.reduceBneDiff, Nat.reduceLT, Nat.reduceSub, decide_true, decide_false, and_self, true_and, and_true, false_and, and_false, not_true_eq_false, not_false_eq_true, false_implies, true_implies, implies_true, ge_iff_le, Bool.false_eq_true, List.cons_append, List.nil_append, Int.ofNat_lt, List.length_map, Int.natCast_nonneg]
  refine callQ_self (ds := [eG m.1, eWo w]) (by rfl) (hc2 m.1 w hg) ?_
  cases hq : okWo m.1 w
  · rw [show runS (some true) m w = (((some true), []), 1) by simp [runS, hq]]
    simp +contextual -implicitDefEqProofs only [eWo, at0, eM, eS, eI, eG, eB, eQ, at0, D.size, D.sizeL, D.sub, Int.cast_ofNat_Int, Int.reduceLT, Int.reduceLE, Int.le_refl, Int.reduceBEq, Int.reduceEq, beq_self_eq_true, Int.reduceToNat, D.isAg, List.map_nil, List.map_cons, List.length_cons, List.length_nil, bne, Bool.not_true, Bool.not_false, Bool.true_and, Bool.false_and, Bool.and_true, Bool.and_false, Bool.true_or, Bool.false_or, Bool.or_true, Bool.or_false, go_sem, eI, eB, ↓reduceIte, Nat.reduceEqDiff, Nat.reduceAdd, Nat.reduceLeDiff, Nat.reduceMul, Nat.reduceBEq, Nat.reduceBneDiff, Nat.reduceLT, Nat.reduceSub, decide_true, decide_false, and_self, true_and, and_true, false_and, and_false, not_true_eq_false, not_false_eq_true, false_implies, true_implies, implies_true, ge_iff_le, Bool.false_eq_true, List.cons_append, List.nil_append, Int.ofNat_lt, List.length_map, Int.natCast_nonneg]
  have hW := okWo_ok hM hq
  have wl := hW.len
  have ws := hW.small
  rw [runS_eq ho hq hM]
  simp +contextual -implicitDefEqProofs only [eWo, at0, eM, eS, eI, eG, eB, eQ, at0, D.size, D.sizeL, D.sub, Int.cast_ofNat_Int, Int.reduceLT, Int.reduceLE, Int.le_refl, Int.reduceBEq, Int.reduceEq, beq_self_eq_true, Int.reduceToNat, D.isAg, List.map_nil, List.map_cons, List.length_cons, List.length_nil, bne, Bool.not_true, Bool.not_false, Bool.true_and, Bool.false_and, Bool.and_true, Bool.and_false, Bool.true_or, Bool.false_or, Bool.or_true, Bool.or_false, rTab_fst, rTab_map, go_sem, eI, eB, ↓reduceIte, Nat.reduceEqDiff, Nat.reduceAdd, Nat.reduceLeDiff, Nat.reduceMul, Nat.reduceBEq, Nat.reduceBneDiff, Nat.reduceLT, Nat.reduceSub, decide_true, decide_false, and_self, true_and, and_true, false_and, and_false, not_true_eq_false, not_false_eq_true, false_implies, true_implies, implies_true, ge_iff_le, Bool.false_eq_true, List.cons_append, List.nil_append, Int.ofNat_lt, List.length_map, Int.natCast_nonneg]
  refine callQ_self (ds := [eI (0 : Nat), .pt (eM m) 0, .pt (eWo w) 0]) (by rfl) (hc4 m n w 0 hM (by omega)) ?_
  simp +contextual -implicitDefEqProofs only [eWo, at0, eM, eS, eI, eG, eB, eQ, at0, D.size, D.sizeL, D.sub, Int.cast_ofNat_Int, Int.reduceLT, Int.reduceLE, Int.le_refl, Int.reduceBEq, Int.reduceEq, beq_self_eq_true, Int.reduceToNat, D.isAg, List.map_nil, List.map_cons, List.length_cons, List.length_nil, bne, Bool.not_true, Bool.not_false, Bool.true_and, Bool.false_and, Bool.and_true, Bool.and_false, Bool.true_or, Bool.false_or, Bool.or_true, Bool.or_false, go_sem, eI, eB, ↓reduceIte, Nat.reduceEqDiff, Nat.reduceAdd, Nat.reduceLeDiff, Nat.reduceMul, Nat.reduceBEq, Nat.reduceBneDiff, Nat.reduceLT, Nat.reduceSub, decide_true, decide_false, and_self, true_and, and_true, false_and, and_false, not_true_eq_false, not_false_eq_true, false_implies, true_implies, implies_true, ge_iff_le, Bool.false_eq_true, List.cons_append, List.nil_append, Int.ofNat_lt, List.length_map, Int.natCast_nonneg]
  refine vc_onU (α := Nat) [7, 8, 9, 22, 26, 27, 28, 29, 30, 31, 32, 33, 34, 35, 36, 37, 38, 39, 40, 41, 42, 43] (fun i => [(26, .im none (.sc (.int .i64 i))), (7, .tr 22)]) (fun i => [(22, .own (.ls (some false) 1 (rD n (runU m n w i)))), (3, .ar false (some false) 2 [.ag [.ls w.1.1 1 (w.1.2.map eI), .ls w.2.1 1 (w.2.2.map eI)]]), (2, .ar false (some false) 5 [.ag [.sc (.int .i64 m.1.1), .sc (.int .i64 m.1.2), .sc (.int .i64 m.2.1), .ls m.2.2.1.1 1 (m.2.2.1.2.map (eS 1 eB)), .ls m.2.2.2.1 1 (m.2.2.2.2.map (eS 1 (eS 1 eB)))]])]) (fun i => i ≤ w.2.2.length) (fun i => w.2.2.length - i) 0 (Ent.to [] (by simp only [go_sem, ↓reduceIte, Nat.reduceEqDiff, Nat.reduceBEq, Nat.reduceBneDiff, Bool.false_eq_true]; rfl) rfl (by simp [runU]) (by rfl) (by simp only [subEnv, go_sem, ↓reduceIte, Nat.reduceEqDiff, Nat.reduceBEq, keep, memN, Bool.or_false, Bool.false_or, Bool.or_self, Bool.false_eq_true] <;> simp)) (Nat.zero_le _) ?_
  intro i hi0
  by_cases hi : i < w.2.2.length
  · have e1 := at_mapD (f := eI) (d := 0) hi
    obtain ⟨a0, a1⟩ := hW.act i hi
    have a2 := nat_lt_of' a0 a1
    have e2 := at_mapD (f := eS 1 (eS 1 eB)) (d := (none, [])) a1
    have sq := hM.asq _ (getD_mem (d := (none, [])) a1)
    have hw1 : IntKind.i64.wrap ((i : Int) + 1) = ((i + 1 : Nat) : Int) := by rw [wrap_i64 (by omega) (by omega)]; omega
    simp +contextual -implicitDefEqProofs only [hi, e1, e2, a0, a2, eWo, at0, eM, eS, eI, eG, eB, eQ, at0, D.size, D.sizeL, D.sub, Int.cast_ofNat_Int, Int.reduceLT, Int.reduceLE, Int.le_refl, Int.reduceBEq, Int.reduceEq, beq_self_eq_true, Int.reduceToNat, D.isAg, List.map_nil, List.map_cons, List.length_cons, List.length_nil, bne, Bool.not_true, Bool.not_false, Bool.true_and, Bool.false_and, Bool.and_true, Bool.and_false, Bool.true_or, Bool.false_or, Bool.or_true, Bool.or_false, go_sem, eI, eB, ↓reduceIte, Nat.reduceEqDiff, Nat.reduceAdd, Nat.reduceLeDiff, Nat.reduceMul, Nat.reduceBEq, Nat.reduceBneDiff, Nat.reduceLT, Nat.reduceSub, decide_true, decide_false, and_self, true_and, and_true, false_and, and_false, not_true_eq_false, not_false_eq_true, false_implies, true_implies, implies_true, ge_iff_le, Bool.false_eq_true, List.cons_append, List.nil_append, Int.ofNat_lt, List.length_map, Int.natCast_nonneg]
    refine callQ_self (ds := [.ls (some false) 1 (rD n (runU m n w i)), eS 1 (eS 1 eB) (wAct m w i)]) (by rfl) (comp_G hc3 (by omega) sq) ?_
    simp +contextual -implicitDefEqProofs only [hw1, eWo, at0, eM, eS, eI, eG, eB, eQ, at0, D.size, D.sizeL, D.sub, Int.cast_ofNat_Int, Int.reduceLT, Int.reduceLE, Int.le_refl, Int.reduceBEq, Int.reduceEq, beq_self_eq_true, Int.reduceToNat, D.isAg, List.map_nil, List.map_cons, List.length_cons, List.length_nil, bne, Bool.not_true, Bool.not_false, Bool.true_and, Bool.false_and, Bool.and_true, Bool.and_false, Bool.true_or, Bool.false_or, Bool.or_true, Bool.or_false, go_sem, eI, eB, ↓reduceIte, Nat.reduceEqDiff, Nat.reduceAdd, Nat.reduceLeDiff, Nat.reduceMul, Nat.reduceBEq, Nat.reduceBneDiff, Nat.reduceLT, Nat.reduceSub, decide_true, decide_false, and_self, true_and, and_true, false_and, and_false, not_true_eq_false, not_false_eq_true, false_implies, true_implies, implies_true, ge_iff_le, Bool.false_eq_true, List.cons_append, List.nil_append, Int.ofNat_lt, List.length_map, Int.natCast_nonneg]
    refine callQ_self (ds := [eI (i + 1 : Nat), .pt (eM m) 0, .pt (eWo w) 0]) (by rfl) (hc4 m n w (i + 1) hM (by omega)) ?_
    simp +contextual -implicitDefEqProofs only [hw1, eWo, at0, eM, eS, eI, eG, eB, eQ, at0, D.size, D.sizeL, D.sub, Int.cast_ofNat_Int, Int.reduceLT, Int.reduceLE, Int.le_refl, Int.reduceBEq, Int.reduceEq, beq_self_eq_true, Int.reduceToNat, D.isAg, List.map_nil, List.map_cons, List.length_cons, List.length_nil, bne, Bool.not_true, Bool.not_false, Bool.true_and, Bool.false_and, Bool.and_true, Bool.and_false, Bool.true_or, Bool.false_or, Bool.or_true, Bool.or_false, go_sem, eI, eB, ↓reduceIte, Nat.reduceEqDiff, Nat.reduceAdd, Nat.reduceLeDiff, Nat.reduceMul, Nat.reduceBEq, Nat.reduceBneDiff, Nat.reduceLT, Nat.reduceSub, decide_true, decide_false, and_self, true_and, and_true, false_and, and_false, not_true_eq_false, not_false_eq_true, false_implies, true_implies, implies_true, ge_iff_le, Bool.false_eq_true, List.cons_append, List.nil_append, Int.ofNat_lt, List.length_map, Int.natCast_nonneg]
    refine callQ_self (ds := [.ls (some false) 1 (rD n (dotR n (runU m n w i) (relOf (wAct m w i)))), .ls (some false) 1 (rD n (atR m (woAt w (i + 1))))]) (by rfl) (comp_D hc3 (by omega)) ?_
    rw [runU_imp]
    simp +contextual -implicitDefEqProofs only [hw1, eWo, at0, eM, eS, eI, eG, eB, eQ, at0, D.size, D.sizeL, D.sub, Int.cast_ofNat_Int, Int.reduceLT, Int.reduceLE, Int.le_refl, Int.reduceBEq, Int.reduceEq, beq_self_eq_true, Int.reduceToNat, D.isAg, List.map_nil, List.map_cons, List.length_cons, List.length_nil, bne, Bool.not_true, Bool.not_false, Bool.true_and, Bool.false_and, Bool.and_true, Bool.and_false, Bool.true_or, Bool.false_or, Bool.or_true, Bool.or_false, go_sem, eI, eB, ↓reduceIte, Nat.reduceEqDiff, Nat.reduceAdd, Nat.reduceLeDiff, Nat.reduceMul, Nat.reduceBEq, Nat.reduceBneDiff, Nat.reduceLT, Nat.reduceSub, decide_true, decide_false, and_self, true_and, and_true, false_and, and_false, not_true_eq_false, not_false_eq_true, false_implies, true_implies, implies_true, ge_iff_le, Bool.false_eq_true, List.cons_append, List.nil_append, Int.ofNat_lt, List.length_map, Int.natCast_nonneg]
    refine ⟨i + 1, by omega, by omega, ?_⟩
    refine Ent.trans (Ent.dels [22, 37, 41] _) (Ent.trans (Ent.ren _ 42 22 [7] (.ls (some false) 1 (rD n (runU m n w (i + 1)))) (by rfl) (by rfl) (by simp; rfl)) ?_)
    exact Ent.to [] (by simp only [go_sem, List.map_cons, List.map_nil, List.cons_append, List.nil_append, ↓reduceIte, Nat.reduceEqDiff, Nat.reduceBEq, Nat.reduceBneDiff, Bool.false_eq_true]; rfl) rfl (by simp) (by rfl) (by simp only [subEnv, go_sem, ↓reduceIte, Nat.reduceEqDiff, Nat.reduceBEq, keep, memN, Bool.or_false, Bool.false_or, Bool.or_self, Bool.false_eq_true] <;> simp)
  · obtain rfl : i = w.2.2.length := by omega
    simp +contextual -implicitDefEqProofs only [hi, eWo, at0, eM, eS, eI, eG, eB, eQ, at0, D.size, D.sizeL, D.sub, Int.cast_ofNat_Int, Int.reduceLT, Int.reduceLE, Int.le_refl, Int.reduceBEq, Int.reduceEq, beq_self_eq_true, Int.reduceToNat, D.isAg, List.map_nil, List.map_cons, List.length_cons, List.length_nil, bne, Bool.not_true, Bool.not_false, Bool.true_and, Bool.false_and, Bool.and_true, Bool.and_false, Bool.true_or, Bool.false_or, Bool.or_true, Bool.or_false, go_sem, eI, eB, ↓reduceIte, Nat.reduceEqDiff, Nat.reduceAdd, Nat.reduceLeDiff, Nat.reduceMul, Nat.reduceBEq, Nat.reduceBneDiff, Nat.reduceLT, Nat.reduceSub, decide_true, decide_false, and_self, true_and, and_true, false_and, and_false, not_true_eq_false, not_false_eq_true, false_implies, true_implies, implies_true, ge_iff_le, Bool.false_eq_true, List.cons_append, List.nil_append, Int.ofNat_lt, List.length_map, Int.natCast_nonneg]
def mixF (G H : Rel) (i : Nat) : Rel := fun a b => if a < i then H a b else G a b
def mixC (G H : Rel) (i y : Nat) : Rel := fun a b => if a = i ∧ b < y then H a b else mixF G H i a b
theorem mixF_zero {G H : Rel} : mixF G H 0 = G := by funext a b; simp [mixF]
theorem mixF_full {n : Nat} {G H : Rel} : rD n (mixF G H n) = rD n H := rD_congr fun a b ha _ => by simp [mixF, ha]
theorem mixC_zero {G H : Rel} {i : Nat} : mixC G H i 0 = mixF G H i := by funext a b; simp [mixC]
theorem mixC_at {G H : Rel} {i y : Nat} : mixC G H i y i y = G i y := by simp [mixC, mixF]
theorem mixC_full {n : Nat} {G H : Rel} {i : Nat} : rD n (mixC G H i n) = rD n (mixF G H (i + 1)) := rD_congr fun a b _ hb => by
  unfold mixC mixF
  by_cases ha : a = i
  · subst ha; simp [hb]
  · by_cases h2 : a < i
    · simp [ha, h2, show a < i + 1 by omega]
    · simp [ha, h2, show ¬ a < i + 1 by omega]
theorem mixC_step {G H : Rel} {i y : Nat} : setR (mixC G H i y) i y (H i y) = mixC G H i (y + 1) := by
  funext a b; unfold setR mixC
  by_cases ha : a = i
  · subst ha
    by_cases hb : b = y
    · subst hb; simp
    · by_cases hb2 : b < y
      · simp [hb, hb2, show b < y + 1 by omega]
      · simp [hb, hb2, show ¬ b < y + 1 by omega]
  · simp [ha]
theorem atR_diag {m : Mo} {v : Int} : atR m v = diagR fun x => atm m x == v := rfl

def k_spRunsOf (f1 f2 f3 f4 f5 : Nat) : RC :=
 (.seq
  (.reg false [⟨none, .box 2 5 (.t 0)⟩,
    ⟨none, .box 3 2 (.t 1)⟩,
    ⟨none, .mv 4 (.c (.ls (some true) 1 []))⟩,
    ⟨none, .mv 5 (.c (.sc (.int .i64 0)))⟩])
  ((.seq
   ((.seq
    (.reg false [⟨none, .call (some 11) f1 [(.t 2)]⟩,
      ⟨none, .un 12 .not (.t 11)⟩,
      ⟨none, .mv 13 (.t 12)⟩,
      ⟨some (13, false), .fa 14 0 (.t 2)⟩,
      ⟨some (13, false), .ld 15 true 2 (.t 14)⟩,
      ⟨some (13, false), .call (some 16) f2 [(.t 15), (.t 3)]⟩,
      ⟨some (13, false), .un 17 .not (.t 16)⟩,
      ⟨none, .pick 18 (.t 13) (.c (.sc (.bool true))) (.t 17)⟩])
    (.cond (.t 18)
     ((.seq
      (.reg false [⟨none, .bs 19 1 (.ls (some true) 1 []) 0 []⟩,
        ⟨none, .mv 4 (.t 19)⟩,
        ⟨none, .mv 5 (.c (.sc (.int .i64 1)))⟩])
      (.ret)))
     (.skip))))
   ((.seq
    (.reg false [⟨none, .fa 20 2 (.t 2)⟩,
      ⟨none, .ld 21 false 1 (.t 20)⟩,
      ⟨none, .call (some 22) f3 [(.t 21)]⟩,
      ⟨none, .mv 6 (.t 22)⟩])
    ((.seq
     ((.seq
      (.reg false [⟨none, .mv 7 (.c (.sc (.int .i64 0)))⟩])
      (.blk 0
       (.loop
        ((.seq
         ((.seq
          (.reg false [⟨none, .mv 23 (.t 7)⟩,
            ⟨none, .fa 24 2 (.t 2)⟩,
            ⟨none, .ld 25 false 1 (.t 24)⟩,
            ⟨none, .bin 26 .lss (.t 23) (.t 25)⟩])
          (.cond (.t 26)
           (.skip)
           (.exit 0))))
         ((.seq
          (.blk 1
           (.reg true [⟨none, .mv 29 (.t 6)⟩,
             ⟨none, .mv 30 (.t 7)⟩,
             ⟨none, .ia 31 1 (.t 29) (.t 30)⟩,
             ⟨none, .ld 32 false 1 (.t 31)⟩,
             ⟨none, .mv 33 (.t 7)⟩,
             ⟨none, .fa 34 3 (.t 2)⟩,
             ⟨none, .ld 35 false 1 (.t 34)⟩,
             ⟨none, .mv 36 (.t 7)⟩,
             ⟨none, .call (some 37) f4 [(.t 35), (.t 36)]⟩,
             ⟨none, .fa 38 0 (.t 3)⟩,
             ⟨none, .ld 39 false 1 (.t 38)⟩,
             ⟨none, .ia 40 1 (.t 39) (.c (.sc (.int .i64 0)))⟩,
             ⟨none, .ld 41 false 1 (.t 40)⟩,
             ⟨none, .bin 42 .eql (.t 37) (.t 41)⟩,
             ⟨none, .ia 43 1 (.t 32) (.t 33)⟩,
             ⟨none, .st 1 (.t 43) (.t 42)⟩]))
          (.reg false [⟨none, .mv 27 (.t 7)⟩,
            ⟨none, .bin 28 .add (.t 27) (.c (.sc (.int .i64 1)))⟩,
            ⟨none, .mv 7 (.t 28)⟩])))))))))
     ((.seq
      ((.seq
       (.reg false [⟨none, .mv 8 (.c (.sc (.int .i64 0)))⟩])
       (.blk 2
        (.loop
         ((.seq
          ((.seq
           (.reg false [⟨none, .mv 44 (.t 8)⟩,
             ⟨none, .fa 45 1 (.t 3)⟩,
             ⟨none, .ld 46 false 1 (.t 45)⟩,
             ⟨none, .len 47 (.t 46)⟩,
             ⟨none, .bin 48 .lss (.t 44) (.t 47)⟩])
           (.cond (.t 48)
            (.skip)
            (.exit 2))))
          ((.seq
           (.blk 3
            ((.seq
             (.reg true [⟨none, .mv 51 (.t 6)⟩,
               ⟨none, .fa 52 4 (.t 2)⟩,
               ⟨none, .ld 53 false 1 (.t 52)⟩,
               ⟨none, .fa 54 1 (.t 3)⟩,
               ⟨none, .ld 55 false 1 (.t 54)⟩,
               ⟨none, .mv 56 (.t 8)⟩,
               ⟨none, .ia 57 1 (.t 55) (.t 56)⟩,
               ⟨none, .ld 58 false 1 (.t 57)⟩,
               ⟨none, .ia 59 1 (.t 53) (.t 58)⟩,
               ⟨none, .ld 60 false 1 (.t 59)⟩,
               ⟨none, .call (some 61) f5 [(.t 51), (.t 60)]⟩,
               ⟨none, .mv 6 (.t 61)⟩])
             ((.seq
              (.reg false [⟨none, .mv 9 (.c (.sc (.int .i64 0)))⟩])
              (.blk 4
               (.loop
                ((.seq
                 ((.seq
                  (.reg false [⟨none, .mv 62 (.t 9)⟩,
                    ⟨none, .fa 63 2 (.t 2)⟩,
                    ⟨none, .ld 64 false 1 (.t 63)⟩,
                    ⟨none, .bin 65 .lss (.t 62) (.t 64)⟩])
                  (.cond (.t 65)
                   (.skip)
                   (.exit 4))))
                 ((.seq
                  (.blk 5
                   ((.seq
                    (.reg false [⟨none, .mv 10 (.c (.sc (.int .i64 0)))⟩])
                    (.blk 6
                     (.loop
                      ((.seq
                       ((.seq
                        (.reg false [⟨none, .mv 68 (.t 10)⟩,
                          ⟨none, .fa 69 2 (.t 2)⟩,
                          ⟨none, .ld 70 false 1 (.t 69)⟩,
                          ⟨none, .bin 71 .lss (.t 68) (.t 70)⟩])
                        (.cond (.t 71)
                         (.skip)
                         (.exit 6))))
                       ((.seq
                        (.blk 7
                         (.reg true [⟨none, .mv 74 (.t 6)⟩,
                           ⟨none, .mv 75 (.t 9)⟩,
                           ⟨none, .ia 76 1 (.t 74) (.t 75)⟩,
                           ⟨none, .ld 77 false 1 (.t 76)⟩,
                           ⟨none, .mv 78 (.t 10)⟩,
                           ⟨none, .mv 79 (.t 6)⟩,
                           ⟨none, .mv 80 (.t 9)⟩,
                           ⟨none, .ia 81 1 (.t 79) (.t 80)⟩,
                           ⟨none, .ld 82 false 1 (.t 81)⟩,
                           ⟨none, .mv 83 (.t 10)⟩,
                           ⟨none, .ia 84 1 (.t 82) (.t 83)⟩,
                           ⟨none, .ld 85 false 1 (.t 84)⟩,
                           ⟨none, .mv 86 (.t 85)⟩,
                           ⟨some (86, true), .fa 87 3 (.t 2)⟩,
                           ⟨some (86, true), .ld 88 false 1 (.t 87)⟩,
                           ⟨some (86, true), .mv 89 (.t 10)⟩,
                           ⟨some (86, true), .call (some 90) f4 [(.t 88), (.t 89)]⟩,
                           ⟨some (86, true), .fa 91 0 (.t 3)⟩,
                           ⟨some (86, true), .ld 92 false 1 (.t 91)⟩,
                           ⟨some (86, true), .mv 93 (.t 8)⟩,
                           ⟨some (86, true), .bin 94 .add (.t 93) (.c (.sc (.int .i64 1)))⟩,
                           ⟨some (86, true), .ia 95 1 (.t 92) (.t 94)⟩,
                           ⟨some (86, true), .ld 96 false 1 (.t 95)⟩,
                           ⟨some (86, true), .bin 97 .eql (.t 90) (.t 96)⟩,
                           ⟨none, .pick 98 (.t 86) (.t 97) (.c (.sc (.bool false)))⟩,
                           ⟨none, .ia 99 1 (.t 77) (.t 78)⟩,
                           ⟨none, .st 1 (.t 99) (.t 98)⟩]))
                        (.reg false [⟨none, .mv 72 (.t 10)⟩,
                          ⟨none, .bin 73 .add (.t 72) (.c (.sc (.int .i64 1)))⟩,
                          ⟨none, .mv 10 (.t 73)⟩]))))))))))
                  (.reg false [⟨none, .mv 66 (.t 9)⟩,
                    ⟨none, .bin 67 .add (.t 66) (.c (.sc (.int .i64 1)))⟩,
                    ⟨none, .mv 9 (.t 67)⟩]))))))))))))
           (.reg false [⟨none, .mv 49 (.t 8)⟩,
             ⟨none, .bin 50 .add (.t 49) (.c (.sc (.int .i64 1)))⟩,
             ⟨none, .mv 8 (.t 50)⟩])))))))))
      ((.seq
       (.reg false [⟨none, .mv 100 (.t 6)⟩,
         ⟨none, .mv 4 (.t 100)⟩,
         ⟨none, .mv 5 (.c (.sc (.int .i64 0)))⟩])
       (.ret))))))))))))
def K_spRunsOf (P : Program) (fno : Nat) : Prop := ∀ (m : Mo) (w : Wo), AF P fno [eM m, eWo w] (.tup ([.own (eS 1 (eS 1 eB) (runS (some false) m w).1), .own (eI (runS (some false) m w).2)]))
theorem a_spRunsOf {P : Program} (hm : P.follows .mixedOrders = true) {g f1 f2 f3 f4 f5 : Nat} (hr : resF P g = some (101, k_spRunsOf f1 f2 f3 f4 f5, [.t 4, .t 5])) (hc1 : K_l05Ok P f1) (hc2 : K_l01Word P f2) (hc3 : K_l05None P f3) (hc4 : K_l05Atom P f4) (hc5 : K_l05Dot P f5) : K_spRunsOf P g := by
  intro m w
  refine af_of_res hr hm rfl fun hb => ?_
  simp +contextual -implicitDefEqProofs only [k_spRunsOf, eWo, at0, eM, eS, eI, eG, eB, eQ, at0, D.size, D.sizeL, D.sub, Int.cast_ofNat_Int, Int.reduceLT, Int.reduceLE, Int.le_refl, Int.reduceBEq, Int.reduceEq, beq_self_eq_true, Int.reduceToNat, D.isAg, List.map_nil, List.map_cons, List.length_cons, List.length_nil, bne, Bool.not_true, Bool.not_false, Bool.true_and, Bool.false_and, Bool.and_true, Bool.and_false, Bool.true_or, Bool.false_or, Bool.or_true, Bool.or_false, go_sem, eI, eB, ↓reduceIte, Nat.reduceEqDiff, Nat.reduceAdd, Nat.reduceLeDiff, Nat.reduceMul, Nat.reduceBEq, Nat.reduceBneDiff, Nat.reduceLT, Nat.reduceSub, decide_true, decide_false, and_self, true_and, and_true, false_and, and_false, not_true_eq_false, not_false_eq_true, false_implies, true_implies, implies_true, ge_iff_le, Bool.false_eq_true, List.cons_append, List.nil_append, Int.ofNat_lt, List.length_map, Int.natCast_nonneg]
  refine callQ_self (ds := [.pt (eM m) 0]) (by rfl) (hc1 m) ?_
  cases ho : okMo m
  · rw [show runS (some false) m w = (((some false), []), 1) by simp [runS, ho]]
    simp +contextual -implicitDefEqProofs only [eWo, at0, eM, eS, eI, eG, eB, eQ, at0, D.size, D.sizeL, D.sub, Int.cast_ofNat_Int, Int.reduceLT, Int.reduceLE, Int.le_refl, Int.reduceBEq, Int.reduceEq, beq_self_eq_true, Int.reduceToNat, D.isAg, List.map_nil, List.map_cons, List.length_cons, List.length_nil, bne, Bool.not_true, Bool.not_false, Bool.true_and, Bool.false_and, Bool.and_true, Bool.and_false, Bool.true_or, Bool.false_or, Bool.or_true, Bool.or_false, go_sem, eI, eB, ↓reduceIte, Nat.reduceEqDiff, Nat.reduceAdd, Nat.reduceLeDiff, Nat.reduceMul, Nat.reduceBEq, Nat.reduceBneDiff, Nat.reduceLT, Nat.reduceSub, decide_true, decide_false, and_self, true_and, and_true, false_and, and_false, not_true_eq_false, not_false_eq_true, false_implies, true_implies, implies_true, ge_iff_le, Bool.false_eq_true, List.cons_append, List.nil_append, Int.ofNat_lt, List.length_map, Int.natCast_nonneg]
  obtain ⟨n, hM⟩ := okMo_ok ho
  have hg := hM.g
  have n8 := hM.n8
  have n1 := hM.n1
  have hp := hM.pts
  simp +contextual -implicitDefEqProofs only [eWo, at0, eM, eS, eI, eG, eB, eQ, at0, D.size, D.sizeL, D.sub, Int.cast_ofNat_Int, Int.reduceLT, Int.reduceLE, Int.le_refl, Int.reduceBEq, Int.reduceEq, beq_self_eq_true, Int.reduceToNat, D.isAg, List.map_nil, List.map_cons, List.length_cons, List.length_nil, bne, Bool.not_true, Bool.not_false, Bool.true_and, Bool.false_and, Bool.and_true, Bool.and_false, Bool.true_or, Bool.false_or, Bool.or_true, Bool.or_false, go_sem, eI, eB, ↓reduceIte, Nat.reduceEqDiff, Nat.reduceAdd, Nat.reduceLeDiff, Nat.reduceMul, Nat.reduceBEq, Nat.reduceBneDiff, Nat.reduceLT, Nat.reduceSub, decide_true, decide_false, and_self, true_and, and_true, false_and, and_false, not_true_eq_false, not_false_eq_true, false_implies, true_implies, implies_true, ge_iff_le, Bool.false_eq_true, List.cons_append, List.nil_append, Int.ofNat_lt, List.length_map, Int.natCast_nonneg]
  refine callQ_self (ds := [eG m.1, .pt (eWo w) 0]) (by rfl) (hc2 m.1 w) ?_
  cases hq : okWo m.1 w
  · rw [show runS (some false) m w = (((some false), []), 1) by simp [runS, hq]]
    simp +contextual -implicitDefEqProofs only [eWo, at0, eM, eS, eI, eG, eB, eQ, at0, D.size, D.sizeL, D.sub, Int.cast_ofNat_Int, Int.reduceLT, Int.reduceLE, Int.le_refl, Int.reduceBEq, Int.reduceEq, beq_self_eq_true, Int.reduceToNat, D.isAg, List.map_nil, List.map_cons, List.length_cons, List.length_nil, bne, Bool.not_true, Bool.not_false, Bool.true_and, Bool.false_and, Bool.and_true, Bool.and_false, Bool.true_or, Bool.false_or, Bool.or_true, Bool.or_false, hg, go_sem, eI, eB, ↓reduceIte, Nat.reduceEqDiff, Nat.reduceAdd, Nat.reduceLeDiff, Nat.reduceMul, Nat.reduceBEq, Nat.reduceBneDiff, Nat.reduceLT, Nat.reduceSub, decide_true, decide_false, and_self, true_and, and_true, false_and, and_false, not_true_eq_false, not_false_eq_true, false_implies, true_implies, implies_true, ge_iff_le, Bool.false_eq_true, List.cons_append, List.nil_append, Int.ofNat_lt, List.length_map, Int.natCast_nonneg]
  have hW := okWo_ok hM hq
  have wl := hW.len
  have ws := hW.small
  rw [runS_eq ho hq hM]
  simp +contextual -implicitDefEqProofs only [eWo, at0, eM, eS, eI, eG, eB, eQ, at0, D.size, D.sizeL, D.sub, Int.cast_ofNat_Int, Int.reduceLT, Int.reduceLE, Int.le_refl, Int.reduceBEq, Int.reduceEq, beq_self_eq_true, Int.reduceToNat, D.isAg, List.map_nil, List.map_cons, List.length_cons, List.length_nil, bne, Bool.not_true, Bool.not_false, Bool.true_and, Bool.false_and, Bool.and_true, Bool.and_false, Bool.true_or, Bool.false_or, Bool.or_true, Bool.or_false, rTab_fst, rTab_map, hg, go_sem, eI, eB, ↓reduceIte, Nat.reduceEqDiff, Nat.reduceAdd, Nat.reduceLeDiff, Nat.reduceMul, Nat.reduceBEq, Nat.reduceBneDiff, Nat.reduceLT, Nat.reduceSub, decide_true, decide_false, and_self, true_and, and_true, false_and, and_false, not_true_eq_false, not_false_eq_true, false_implies, true_implies, implies_true, ge_iff_le, Bool.false_eq_true, List.cons_append, List.nil_append, Int.ofNat_lt, List.length_map, Int.natCast_nonneg]
  refine callQ_self (ds := [eI n]) (by rw [← hp]; rfl) (hc3 n (by omega)) ?_
  simp +contextual -implicitDefEqProofs only [rD_len, eWo, at0, eM, eS, eI, eG, eB, eQ, at0, D.size, D.sizeL, D.sub, Int.cast_ofNat_Int, Int.reduceLT, Int.reduceLE, Int.le_refl, Int.reduceBEq, Int.reduceEq, beq_self_eq_true, Int.reduceToNat, D.isAg, List.map_nil, List.map_cons, List.length_cons, List.length_nil, bne, Bool.not_true, Bool.not_false, Bool.true_and, Bool.false_and, Bool.and_true, Bool.and_false, Bool.true_or, Bool.false_or, Bool.or_true, Bool.or_false, go_sem, eI, eB, ↓reduceIte, Nat.reduceEqDiff, Nat.reduceAdd, Nat.reduceLeDiff, Nat.reduceMul, Nat.reduceBEq, Nat.reduceBneDiff, Nat.reduceLT, Nat.reduceSub, decide_true, decide_false, and_self, true_and, and_true, false_and, and_false, not_true_eq_false, not_false_eq_true, false_implies, true_implies, implies_true, ge_iff_le, Bool.false_eq_true, List.cons_append, List.nil_append, Int.ofNat_lt, List.length_map, Int.natCast_nonneg]
  refine vc_onU (α := Nat) [7, 23, 24, 25, 26, 27, 28, 29, 30, 31, 32, 33, 34, 35, 36, 37, 38, 39, 40, 41, 42, 43] (fun i => [(7, .im none (.sc (.int .i64 i)))]) (fun i => [(22, .ar true (some false) 1 (rD n (diagF (fun x => atm m x == woAt w 0) i))), (3, .ar false (some false) 2 [.ag [.ls w.1.1 1 (w.1.2.map eI), .ls w.2.1 1 (w.2.2.map eI)]]), (2, .ar false (some false) 5 [.ag [.sc (.int .i64 m.1.1), .sc (.int .i64 m.1.2), .sc (.int .i64 m.2.1), .ls m.2.2.1.1 1 (m.2.2.1.2.map (eS 1 eB)), .ls m.2.2.2.1 1 (m.2.2.2.2.map (eS 1 (eS 1 eB)))]])]) (fun i => i ≤ n) (fun i => n - i) 0 (Ent.to [] (by simp only [go_sem, ↓reduceIte, Nat.reduceEqDiff, Nat.reduceBEq, Nat.reduceBneDiff, Bool.false_eq_true]; rfl) rfl (by simp [diagF_zero, noneR_eq]) (by rfl) (by simp only [subEnv, go_sem, ↓reduceIte, Nat.reduceEqDiff, Nat.reduceBEq, keep, memN, Bool.or_false, Bool.false_or, Bool.or_self, Bool.false_eq_true] <;> simp)) (Nat.zero_le _) ?_
  intro i hi0
  by_cases hi : i < n
  · have a1 := rD_at (R := diagF (fun x => atm m x == woAt w 0) i) hi
    have a2 := rRow_at (f := diagF (fun x => atm m x == woAt w 0) i i) hi
    have hst : setR (diagF (fun x => atm m x == woAt w 0) i) i i (atomAt m.2.2.1.2 i m.2.2.1.2.length == w.1.2.getD 0 0) = diagF (fun x => atm m x == woAt w 0) (i + 1) := diagF_step
    have e1 := at_mapD (f := eI) (d := 0) (show 0 < w.1.2.length by omega)
    have w0 : (0 : Int) < w.1.2.length := by omega
    simp +contextual -implicitDefEqProofs only [hi, hp, rD_len, a1, eWo, at0, eM, eS, eI, eG, eB, eQ, at0, D.size, D.sizeL, D.sub, Int.cast_ofNat_Int, Int.reduceLT, Int.reduceLE, Int.le_refl, Int.reduceBEq, Int.reduceEq, beq_self_eq_true, Int.reduceToNat, D.isAg, List.map_nil, List.map_cons, List.length_cons, List.length_nil, bne, Bool.not_true, Bool.not_false, Bool.true_and, Bool.false_and, Bool.and_true, Bool.and_false, Bool.true_or, Bool.false_or, Bool.or_true, Bool.or_false, go_sem, eI, eB, ↓reduceIte, Nat.reduceEqDiff, Nat.reduceAdd, Nat.reduceLeDiff, Nat.reduceMul, Nat.reduceBEq, Nat.reduceBneDiff, Nat.reduceLT, Nat.reduceSub, decide_true, decide_false, and_self, true_and, and_true, false_and, and_false, not_true_eq_false, not_false_eq_true, false_implies, true_implies, implies_true, ge_iff_le, Bool.false_eq_true, List.cons_append, List.nil_append, Int.ofNat_lt, List.length_map, Int.natCast_nonneg]
    refine callQ_self (ds := [eS 1 (eS 1 eB) m.2.2.1, eI i]) (by rfl) (hc4 m.2.2.1 (i : Int) (by omega) (atm_pre hM hi)) ?_
    simp +contextual -implicitDefEqProofs only [hi, hp, a1, a2, e1, w0, eWo, at0, eM, eS, eI, eG, eB, eQ, at0, D.size, D.sizeL, D.sub, Int.cast_ofNat_Int, Int.reduceLT, Int.reduceLE, Int.le_refl, Int.reduceBEq, Int.reduceEq, beq_self_eq_true, Int.reduceToNat, D.isAg, List.map_nil, List.map_cons, List.length_cons, List.length_nil, bne, Bool.not_true, Bool.not_false, Bool.true_and, Bool.false_and, Bool.and_true, Bool.and_false, Bool.true_or, Bool.false_or, Bool.or_true, Bool.or_false, D.put, inSet, rD_set, rD_len, rRow_len, List.length_set, go_sem, eI, eB, ↓reduceIte, Nat.reduceEqDiff, Nat.reduceAdd, Nat.reduceLeDiff, Nat.reduceMul, Nat.reduceBEq, Nat.reduceBneDiff, Nat.reduceLT, Nat.reduceSub, decide_true, decide_false, and_self, true_and, and_true, false_and, and_false, not_true_eq_false, not_false_eq_true, false_implies, true_implies, implies_true, ge_iff_le, Bool.false_eq_true, List.cons_append, List.nil_append, Int.ofNat_lt, List.length_map, Int.natCast_nonneg]
    rw [wrap_i64 (by omega) (by omega), hst]
    exact ⟨i + 1, by omega, by omega, Ent.to [] (by simp only [go_sem, ↓reduceIte, Nat.reduceEqDiff, Nat.reduceBEq, Nat.reduceBneDiff, Bool.false_eq_true]; rfl) rfl (by simp [hp]) (by rfl) (by simp only [subEnv, go_sem, ↓reduceIte, Nat.reduceEqDiff, Nat.reduceBEq, keep, memN, Bool.or_false, Bool.false_or, Bool.or_self, Bool.false_eq_true] <;> simp)⟩
  · obtain rfl : i = n := by omega
    simp +contextual -implicitDefEqProofs only [hi, hp, rD_len, eWo, at0, eM, eS, eI, eG, eB, eQ, at0, D.size, D.sizeL, D.sub, Int.cast_ofNat_Int, Int.reduceLT, Int.reduceLE, Int.le_refl, Int.reduceBEq, Int.reduceEq, beq_self_eq_true, Int.reduceToNat, D.isAg, List.map_nil, List.map_cons, List.length_cons, List.length_nil, bne, Bool.not_true, Bool.not_false, Bool.true_and, Bool.false_and, Bool.and_true, Bool.and_false, Bool.true_or, Bool.false_or, Bool.or_true, Bool.or_false, go_sem, eI, eB, ↓reduceIte, Nat.reduceEqDiff, Nat.reduceAdd, Nat.reduceLeDiff, Nat.reduceMul, Nat.reduceBEq, Nat.reduceBneDiff, Nat.reduceLT, Nat.reduceSub, decide_true, decide_false, and_self, true_and, and_true, false_and, and_false, not_true_eq_false, not_false_eq_true, false_implies, true_implies, implies_true, ge_iff_le, Bool.false_eq_true, List.cons_append, List.nil_append, Int.ofNat_lt, List.length_map, Int.natCast_nonneg]
    refine vc_onU (α := Nat) [6, 8, 9, 10, 22, 44, 45, 46, 47, 48, 49, 50, 51, 52, 53, 54, 55, 56, 57, 58, 59, 60, 61, 62, 63, 64, 65, 66, 67, 68, 69, 70, 71, 72, 73, 74, 75, 76, 77, 78, 79, 80, 81, 82, 83, 84, 85, 86, 87, 88, 89, 90, 91, 92, 93, 94, 95, 96, 97, 98, 99] (fun k => [(8, .im none (.sc (.int .i64 k))), (6, .sm 22 0 i)]) (fun k => [(22, .ar true (some false) 1 (rD i (runU m i w k))), (3, .ar false (some false) 2 [.ag [.ls w.1.1 1 (w.1.2.map eI), .ls w.2.1 1 (w.2.2.map eI)]]), (2, .ar false (some false) 5 [.ag [.sc (.int .i64 m.1.1), .sc (.int .i64 m.1.2), .sc (.int .i64 m.2.1), .ls m.2.2.1.1 1 (m.2.2.1.2.map (eS 1 eB)), .ls m.2.2.2.1 1 (m.2.2.2.2.map (eS 1 (eS 1 eB)))]])]) (fun k => k ≤ w.2.2.length) (fun k => w.2.2.length - k) 0 (Ent.to [] (by simp only [go_sem, ↓reduceIte, Nat.reduceEqDiff, Nat.reduceBEq, Nat.reduceBneDiff, Bool.false_eq_true]; rfl) rfl (by simp [diagF_full, runU, atR_diag, hp]) (by rfl) (by simp only [subEnv, go_sem, ↓reduceIte, Nat.reduceEqDiff, Nat.reduceBEq, keep, memN, Bool.or_false, Bool.false_or, Bool.or_self, Bool.false_eq_true] <;> simp)) (Nat.zero_le _) ?_
    intro k hk0
    by_cases hk : k < w.2.2.length
    · have e1 := at_mapD (f := eI) (d := 0) hk
      obtain ⟨a0, a1⟩ := hW.act k hk
      have a2 := nat_lt_of' a0 a1
      have e2 := at_mapD (f := eS 1 (eS 1 eB)) (d := (none, [])) a1
      have sq := hM.asq _ (getD_mem (d := (none, [])) a1)
      simp +contextual -implicitDefEqProofs only [hk, e1, e2, a0, a2, eWo, at0, eM, eS, eI, eG, eB, eQ, at0, D.size, D.sizeL, D.sub, Int.cast_ofNat_Int, Int.reduceLT, Int.reduceLE, Int.le_refl, Int.reduceBEq, Int.reduceEq, beq_self_eq_true, Int.reduceToNat, D.isAg, List.map_nil, List.map_cons, List.length_cons, List.length_nil, bne, Bool.not_true, Bool.not_false, Bool.true_and, Bool.false_and, Bool.and_true, Bool.and_false, Bool.true_or, Bool.false_or, Bool.or_true, Bool.or_false, go_sem, eI, eB, ↓reduceIte, Nat.reduceEqDiff, Nat.reduceAdd, Nat.reduceLeDiff, Nat.reduceMul, Nat.reduceBEq, Nat.reduceBneDiff, Nat.reduceLT, Nat.reduceSub, decide_true, decide_false, and_self, true_and, and_true, false_and, and_false, not_true_eq_false, not_false_eq_true, false_implies, true_implies, implies_true, ge_iff_le, Bool.false_eq_true, List.cons_append, List.nil_append, Int.ofNat_lt, List.length_map, Int.natCast_nonneg]
      refine callQ_self (ds := [.ls (some false) 1 (rD i (runU m i w k)), eS 1 (eS 1 eB) (wAct m w k)]) (by simp only [argsOf, AV.arg, AV.den, go_sem, ↓reduceIte, Nat.reduceEqDiff, List.drop_zero, List.take_of_length_le (Nat.le_of_eq rD_len), rD_len, true_and, and_self, if_true]; rfl) (dot_G hc5 (by omega) sq) ?_
      simp +contextual -implicitDefEqProofs only [rD_len, eWo, at0, eM, eS, eI, eG, eB, eQ, at0, D.size, D.sizeL, D.sub, Int.cast_ofNat_Int, Int.reduceLT, Int.reduceLE, Int.le_refl, Int.reduceBEq, Int.reduceEq, beq_self_eq_true, Int.reduceToNat, D.isAg, List.map_nil, List.map_cons, List.length_cons, List.length_nil, bne, Bool.not_true, Bool.not_false, Bool.true_and, Bool.false_and, Bool.and_true, Bool.and_false, Bool.true_or, Bool.false_or, Bool.or_true, Bool.or_false, go_sem, eI, eB, ↓reduceIte, Nat.reduceEqDiff, Nat.reduceAdd, Nat.reduceLeDiff, Nat.reduceMul, Nat.reduceBEq, Nat.reduceBneDiff, Nat.reduceLT, Nat.reduceSub, decide_true, decide_false, and_self, true_and, and_true, false_and, and_false, not_true_eq_false, not_false_eq_true, false_implies, true_implies, implies_true, ge_iff_le, Bool.false_eq_true, List.cons_append, List.nil_append, Int.ofNat_lt, List.length_map, Int.natCast_nonneg]
      refine vc_onU (α := Nat) [9, 10, 62, 63, 64, 65, 66, 67, 68, 69, 70, 71, 72, 73, 74, 75, 76, 77, 78, 79, 80, 81, 82, 83, 84, 85, 86, 87, 88, 89, 90, 91, 92, 93, 94, 95, 96, 97, 98, 99] (fun x => [(9, .im none (.sc (.int .i64 x)))]) (fun x => [(61, .ar true (some false) 1 (rD i (mixF (dotR i (runU m i w k) (relOf (wAct m w k))) (runU m i w (k + 1)) x))), (22, .ar true (some false) 1 (rD i (runU m i w k))), (3, .ar false (some false) 2 [.ag [.ls w.1.1 1 (w.1.2.map eI), .ls w.2.1 1 (w.2.2.map eI)]]), (2, .ar false (some false) 5 [.ag [.sc (.int .i64 m.1.1), .sc (.int .i64 m.1.2), .sc (.int .i64 m.2.1), .ls m.2.2.1.1 1 (m.2.2.1.2.map (eS 1 eB)), .ls m.2.2.2.1 1 (m.2.2.2.2.map (eS 1 (eS 1 eB)))]])]) (fun x => x ≤ i) (fun x => i - x) 0 (Ent.to [] (by simp only [go_sem, ↓reduceIte, Nat.reduceEqDiff, Nat.reduceBEq, Nat.reduceBneDiff, Bool.false_eq_true]; rfl) rfl (by simp [mixF_zero, hp]) (by rfl) (by simp only [subEnv, go_sem, ↓reduceIte, Nat.reduceEqDiff, Nat.reduceBEq, keep, memN, Bool.or_false, Bool.false_or, Bool.or_self, Bool.false_eq_true] <;> simp)) (Nat.zero_le _) ?_
      intro x hx0
      by_cases hx : x < i
      · simp +contextual -implicitDefEqProofs only [hx, hp, rD_len, eWo, at0, eM, eS, eI, eG, eB, eQ, at0, D.size, D.sizeL, D.sub, Int.cast_ofNat_Int, Int.reduceLT, Int.reduceLE, Int.le_refl, Int.reduceBEq, Int.reduceEq, beq_self_eq_true, Int.reduceToNat, D.isAg, List.map_nil, List.map_cons, List.length_cons, List.length_nil, bne, Bool.not_true, Bool.not_false, Bool.true_and, Bool.false_and, Bool.and_true, Bool.and_false, Bool.true_or, Bool.false_or, Bool.or_true, Bool.or_false, go_sem, eI, eB, ↓reduceIte, Nat.reduceEqDiff, Nat.reduceAdd, Nat.reduceLeDiff, Nat.reduceMul, Nat.reduceBEq, Nat.reduceBneDiff, Nat.reduceLT, Nat.reduceSub, decide_true, decide_false, and_self, true_and, and_true, false_and, and_false, not_true_eq_false, not_false_eq_true, false_implies, true_implies, implies_true, ge_iff_le, Bool.false_eq_true, List.cons_append, List.nil_append, Int.ofNat_lt, List.length_map, Int.natCast_nonneg]
        refine vc_onU (α := Nat) [10, 68, 69, 70, 71, 72, 73, 74, 75, 76, 77, 78, 79, 80, 81, 82, 83, 84, 85, 86, 87, 88, 89, 90, 91, 92, 93, 94, 95, 96, 97, 98, 99] (fun y => [(10, .im none (.sc (.int .i64 y)))]) (fun y => [(61, .ar true (some false) 1 (rD i (mixC (dotR i (runU m i w k) (relOf (wAct m w k))) (runU m i w (k + 1)) x y))), (22, .ar true (some false) 1 (rD i (runU m i w k))), (3, .ar false (some false) 2 [.ag [.ls w.1.1 1 (w.1.2.map eI), .ls w.2.1 1 (w.2.2.map eI)]]), (2, .ar false (some false) 5 [.ag [.sc (.int .i64 m.1.1), .sc (.int .i64 m.1.2), .sc (.int .i64 m.2.1), .ls m.2.2.1.1 1 (m.2.2.1.2.map (eS 1 eB)), .ls m.2.2.2.1 1 (m.2.2.2.2.map (eS 1 (eS 1 eB)))]])]) (fun y => y ≤ i) (fun y => i - y) 0 (Ent.to [] (by simp only [go_sem, ↓reduceIte, Nat.reduceEqDiff, Nat.reduceBEq, Nat.reduceBneDiff, Bool.false_eq_true]; rfl) rfl (by simp [mixC_zero, hp]) (by rfl) (by simp only [subEnv, go_sem, ↓reduceIte, Nat.reduceEqDiff, Nat.reduceBEq, keep, memN, Bool.or_false, Bool.false_or, Bool.or_self, Bool.false_eq_true] <;> simp)) (Nat.zero_le _) ?_
        intro y hy0
        by_cases hy : y < i
        · have b1 := rD_at (R := mixC (dotR i (runU m i w k) (relOf (wAct m w k))) (runU m i w (k + 1)) x y) hx
          have b2 := rRow_at (f := mixC (dotR i (runU m i w k) (relOf (wAct m w k))) (runU m i w (k + 1)) x y x) hy
          have hst : setR (mixC (dotR i (runU m i w k) (relOf (wAct m w k))) (runU m i w (k + 1)) x y) x y ((dotR i (runU m i w k) (relOf (wAct m w k))) x y && (atomAt m.2.2.1.2 y m.2.2.1.2.length == w.1.2.getD (k + 1) 0)) = mixC (dotR i (runU m i w k) (relOf (wAct m w k))) (runU m i w (k + 1)) x (y + 1) := mixC_step
          have e3 := at_mapD (f := eI) (d := 0) (show k + 1 < w.1.2.length by omega)
          have hw1 : IntKind.i64.wrap ((k : Int) + 1) = ((k + 1 : Nat) : Int) := by rw [wrap_i64 (by omega) (by omega)]; omega
          have hk1 : k + 1 < w.1.2.length := by omega
          rw [mixC_at] at b2
          cases hv : (dotR i (runU m i w k) (relOf (wAct m w k))) x y
          · rw [hv] at b2 hst
            rw [Bool.false_and] at hst
            simp +contextual -implicitDefEqProofs only [hx, hy, hp, b1, b2, eWo, at0, eM, eS, eI, eG, eB, eQ, at0, D.size, D.sizeL, D.sub, Int.cast_ofNat_Int, Int.reduceLT, Int.reduceLE, Int.le_refl, Int.reduceBEq, Int.reduceEq, beq_self_eq_true, Int.reduceToNat, D.isAg, List.map_nil, List.map_cons, List.length_cons, List.length_nil, bne, Bool.not_true, Bool.not_false, Bool.true_and, Bool.false_and, Bool.and_true, Bool.and_false, Bool.true_or, Bool.false_or, Bool.or_true, Bool.or_false, D.put, inSet, rD_set, rD_len, rRow_len, List.length_set, go_sem, eI, eB, ↓reduceIte, Nat.reduceEqDiff, Nat.reduceAdd, Nat.reduceLeDiff, Nat.reduceMul, Nat.reduceBEq, Nat.reduceBneDiff, Nat.reduceLT, Nat.reduceSub, decide_true, decide_false, and_self, true_and, and_true, false_and, and_false, not_true_eq_false, not_false_eq_true, false_implies, true_implies, implies_true, ge_iff_le, Bool.false_eq_true, List.cons_append, List.nil_append, Int.ofNat_lt, List.length_map, Int.natCast_nonneg]
            rw [wrap_i64 (by omega) (by omega), hst]
            exact ⟨y + 1, by omega, by omega, Ent.to [] (by simp only [go_sem, ↓reduceIte, Nat.reduceEqDiff, Nat.reduceBEq, Nat.reduceBneDiff, Bool.false_eq_true]; rfl) rfl (by simp [hp]) (by rfl) (by simp only [subEnv, go_sem, ↓reduceIte, Nat.reduceEqDiff, Nat.reduceBEq, keep, memN, Bool.or_false, Bool.false_or, Bool.or_self, Bool.false_eq_true] <;> simp)⟩
          · rw [hv] at b2 hst
            rw [Bool.true_and] at hst
            simp +contextual -implicitDefEqProofs only [hx, hy, hp, b1, b2, hw1, e3, hk1, eWo, at0, eM, eS, eI, eG, eB, eQ, at0, D.size, D.sizeL, D.sub, Int.cast_ofNat_Int, Int.reduceLT, Int.reduceLE, Int.le_refl, Int.reduceBEq, Int.reduceEq, beq_self_eq_true, Int.reduceToNat, D.isAg, List.map_nil, List.map_cons, List.length_cons, List.length_nil, bne, Bool.not_true, Bool.not_false, Bool.true_and, Bool.false_and, Bool.and_true, Bool.and_false, Bool.true_or, Bool.false_or, Bool.or_true, Bool.or_false, D.put, inSet, rD_set, rD_len, rRow_len, List.length_set, go_sem, eI, eB, ↓reduceIte, Nat.reduceEqDiff, Nat.reduceAdd, Nat.reduceLeDiff, Nat.reduceMul, Nat.reduceBEq, Nat.reduceBneDiff, Nat.reduceLT, Nat.reduceSub, decide_true, decide_false, and_self, true_and, and_true, false_and, and_false, not_true_eq_false, not_false_eq_true, false_implies, true_implies, implies_true, ge_iff_le, Bool.false_eq_true, List.cons_append, List.nil_append, Int.ofNat_lt, List.length_map, Int.natCast_nonneg]
            refine callQ_self (ds := [eS 1 (eS 1 eB) m.2.2.1, eI y]) (by rfl) (hc4 m.2.2.1 (y : Int) (by omega) (atm_pre hM hy)) ?_
            simp +contextual -implicitDefEqProofs only [hx, hy, hp, b1, b2, hw1, e3, hk1, eWo, at0, eM, eS, eI, eG, eB, eQ, at0, D.size, D.sizeL, D.sub, Int.cast_ofNat_Int, Int.reduceLT, Int.reduceLE, Int.le_refl, Int.reduceBEq, Int.reduceEq, beq_self_eq_true, Int.reduceToNat, D.isAg, List.map_nil, List.map_cons, List.length_cons, List.length_nil, bne, Bool.not_true, Bool.not_false, Bool.true_and, Bool.false_and, Bool.and_true, Bool.and_false, Bool.true_or, Bool.false_or, Bool.or_true, Bool.or_false, D.put, inSet, rD_set, rD_len, rRow_len, List.length_set, go_sem, eI, eB, ↓reduceIte, Nat.reduceEqDiff, Nat.reduceAdd, Nat.reduceLeDiff, Nat.reduceMul, Nat.reduceBEq, Nat.reduceBneDiff, Nat.reduceLT, Nat.reduceSub, decide_true, decide_false, and_self, true_and, and_true, false_and, and_false, not_true_eq_false, not_false_eq_true, false_implies, true_implies, implies_true, ge_iff_le, Bool.false_eq_true, List.cons_append, List.nil_append, Int.ofNat_lt, List.length_map, Int.natCast_nonneg]
            rw [wrap_i64 (by omega) (by omega), hst]
            exact ⟨y + 1, by omega, by omega, Ent.to [] (by simp only [go_sem, ↓reduceIte, Nat.reduceEqDiff, Nat.reduceBEq, Nat.reduceBneDiff, Bool.false_eq_true]; rfl) rfl (by simp [hp]) (by rfl) (by simp only [subEnv, go_sem, ↓reduceIte, Nat.reduceEqDiff, Nat.reduceBEq, keep, memN, Bool.or_false, Bool.false_or, Bool.or_self, Bool.false_eq_true] <;> simp)⟩
        · obtain rfl : y = i := by omega
          simp +contextual -implicitDefEqProofs only [hy, hp, eWo, at0, eM, eS, eI, eG, eB, eQ, at0, D.size, D.sizeL, D.sub, Int.cast_ofNat_Int, Int.reduceLT, Int.reduceLE, Int.le_refl, Int.reduceBEq, Int.reduceEq, beq_self_eq_true, Int.reduceToNat, D.isAg, List.map_nil, List.map_cons, List.length_cons, List.length_nil, bne, Bool.not_true, Bool.not_false, Bool.true_and, Bool.false_and, Bool.and_true, Bool.and_false, Bool.true_or, Bool.false_or, Bool.or_true, Bool.or_false, go_sem, eI, eB, ↓reduceIte, Nat.reduceEqDiff, Nat.reduceAdd, Nat.reduceLeDiff, Nat.reduceMul, Nat.reduceBEq, Nat.reduceBneDiff, Nat.reduceLT, Nat.reduceSub, decide_true, decide_false, and_self, true_and, and_true, false_and, and_false, not_true_eq_false, not_false_eq_true, false_implies, true_implies, implies_true, ge_iff_le, Bool.false_eq_true, List.cons_append, List.nil_append, Int.ofNat_lt, List.length_map, Int.natCast_nonneg]
          rw [wrap_i64 (by omega) (by omega)]
          exact ⟨x + 1, by omega, by omega, Ent.to [] (by simp only [go_sem, ↓reduceIte, Nat.reduceEqDiff, Nat.reduceBEq, Nat.reduceBneDiff, Bool.false_eq_true]; rfl) rfl (by simp [mixC_full, hp]) (by rfl) (by simp only [subEnv, go_sem, ↓reduceIte, Nat.reduceEqDiff, Nat.reduceBEq, keep, memN, Bool.or_false, Bool.false_or, Bool.or_self, Bool.false_eq_true] <;> simp)⟩
      · obtain rfl : x = i := by omega
        simp +contextual -implicitDefEqProofs only [hx, hp, eWo, at0, eM, eS, eI, eG, eB, eQ, at0, D.size, D.sizeL, D.sub, Int.cast_ofNat_Int, Int.reduceLT, Int.reduceLE, Int.le_refl, Int.reduceBEq, Int.reduceEq, beq_self_eq_true, Int.reduceToNat, D.isAg, List.map_nil, List.map_cons, List.length_cons, List.length_nil, bne, Bool.not_true, Bool.not_false, Bool.true_and, Bool.false_and, Bool.and_true, Bool.and_false, Bool.true_or, Bool.false_or, Bool.or_true, Bool.or_false, go_sem, eI, eB, ↓reduceIte, Nat.reduceEqDiff, Nat.reduceAdd, Nat.reduceLeDiff, Nat.reduceMul, Nat.reduceBEq, Nat.reduceBneDiff, Nat.reduceLT, Nat.reduceSub, decide_true, decide_false, and_self, true_and, and_true, false_and, and_false, not_true_eq_false, not_false_eq_true, false_implies, true_implies, implies_true, ge_iff_le, Bool.false_eq_true, List.cons_append, List.nil_append, Int.ofNat_lt, List.length_map, Int.natCast_nonneg]
        rw [wrap_i64 (by omega) (by omega)]
        refine ⟨k + 1, by omega, by omega, ?_⟩
        refine Ent.trans (Ent.del _ 22) (Ent.trans (Ent.renA _ 61 22 [6] (l := x) (by rfl) (by rfl) (by simp; rfl)) ?_)
        exact Ent.to [] (by simp only [go_sem, List.map_cons, List.map_nil, List.cons_append, List.nil_append, ↓reduceIte, Nat.reduceEqDiff, Nat.reduceBEq, Nat.reduceBneDiff, Bool.false_eq_true]; rfl) rfl (by simp [mixF_full, hp]) (by rfl) (by simp only [subEnv, go_sem, ↓reduceIte, Nat.reduceEqDiff, Nat.reduceBEq, keep, memN, Bool.or_false, Bool.false_or, Bool.or_self, Bool.false_eq_true] <;> simp)
    · obtain rfl : k = w.2.2.length := by omega
      simp +contextual -implicitDefEqProofs only [hk, rTab_map, eWo, at0, eM, eS, eI, eG, eB, eQ, at0, D.size, D.sizeL, D.sub, Int.cast_ofNat_Int, Int.reduceLT, Int.reduceLE, Int.le_refl, Int.reduceBEq, Int.reduceEq, beq_self_eq_true, Int.reduceToNat, D.isAg, List.map_nil, List.map_cons, List.length_cons, List.length_nil, bne, Bool.not_true, Bool.not_false, Bool.true_and, Bool.false_and, Bool.and_true, Bool.and_false, Bool.true_or, Bool.false_or, Bool.or_true, Bool.or_false, go_sem, eI, eB, ↓reduceIte, Nat.reduceEqDiff, Nat.reduceAdd, Nat.reduceLeDiff, Nat.reduceMul, Nat.reduceBEq, Nat.reduceBneDiff, Nat.reduceLT, Nat.reduceSub, decide_true, decide_false, and_self, true_and, and_true, false_and, and_false, not_true_eq_false, not_false_eq_true, false_implies, true_implies, implies_true, ge_iff_le, Bool.false_eq_true, List.cons_append, List.nil_append, Int.ofNat_lt, List.length_map, Int.natCast_nonneg]
      exact rD_len.symm
end Go.Ax
