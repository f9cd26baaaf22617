/- Contracts of functions of the seat, proved over the engine. No condition. -/
import Derived.Test.YtcklakmblpkbnaaX22
set_option linter.unusedSimpArgs false
set_option linter.unusedVariables false
set_option linter.unnecessarySimpa false
namespace Go.Ax
set_option linter.unusedSimpArgs false
set_option maxRecDepth 20000
set_option maxHeartbeats 4000000

def subAt (g : Int × Int) (e : Ex) (xs : List Int) : Ex × Int :=
  if (okG g && okE g e) = true then (if (atE e xs false).2.2 = true then (cpE (atE e xs false).1, 0) else (E0, 2)) else (E0, 1)

def k_spSubtermAt (f1 f2 f3 : Nat) : RC :=
 (.seq
  (.reg false [⟨none, .box 3 2 (.t 0)⟩,
    ⟨none, .box 4 3 (.t 1)⟩,
    ⟨none, .zer 6 3 (.ag [(.sc (.int .i64 0)), (.sc (.int .i64 0)), (.ls (some true) 3 [])])⟩,
    ⟨none, .mv 7 (.c (.sc (.int .i64 0)))⟩])
  ((.seq
   ((.seq
    (.reg false [⟨none, .ld 11 true 2 (.t 3)⟩,
      ⟨none, .call (some 12) f1 [(.t 11), (.t 4)]⟩,
      ⟨none, .un 13 .not (.t 12)⟩])
    (.cond (.t 13)
     ((.seq
      (.reg false [⟨none, .bld 14 (.ag [(.sc (.int .i64 0)), (.sc (.int .i64 0)), (.ls (some true) 3 [])]) []⟩,
        ⟨none, .st 3 (.t 6) (.t 14)⟩,
        ⟨none, .mv 7 (.c (.sc (.int .i64 1)))⟩])
      (.ret)))
     (.skip))))
   ((.seq
    (.reg false [⟨none, .mv 16 (.t 2)⟩,
      ⟨none, .cls 17 f3 (.t 4) [(.t 16)]⟩,
      ⟨none, .mv 15 (.t 17)⟩,
      ⟨none, .ext 18 (.t 15) 0⟩,
      ⟨none, .ext 19 (.t 15) 1⟩,
      ⟨none, .ext 20 (.t 15) 2⟩,
      ⟨none, .mv 8 (.t 18)⟩,
      ⟨none, .mv 9 (.t 19)⟩,
      ⟨none, .mv 10 (.t 20)⟩])
    ((.seq
     ((.seq
      (.reg false [⟨none, .mv 21 (.t 10)⟩,
        ⟨none, .un 22 .not (.t 21)⟩])
      (.cond (.t 22)
       ((.seq
        (.reg false [⟨none, .bld 23 (.ag [(.sc (.int .i64 0)), (.sc (.int .i64 0)), (.ls (some true) 3 [])]) []⟩,
          ⟨none, .st 3 (.t 6) (.t 23)⟩,
          ⟨none, .mv 7 (.c (.sc (.int .i64 2)))⟩])
        (.ret)))
       (.skip))))
     ((.seq
      (.reg false [⟨none, .mv 24 (.t 8)⟩,
        ⟨none, .call (some 25) f2 [(.t 24)]⟩,
        ⟨none, .st 3 (.t 6) (.t 25)⟩,
        ⟨none, .mv 7 (.c (.sc (.int .i64 0)))⟩])
      (.ret))))))))))
def K_spSubtermAt (P : Program) (fno : Nat) : Prop := ∀ (g : Int × Int) (e : Ex) (nn : Option Bool) (xs : List Int) (hf : fitE e), AF P fno [eG g, eE e, .ls nn 1 (xs.map eI)] (.tup ([.own (eE (subAt g e xs).1), .own (eI (subAt g e xs).2)]))
theorem a_spSubtermAt {P : Program} (hm : P.follows .mixedOrders = true) {g f1 f2 f3 : Nat} (hr : resF P g = some (26, k_spSubtermAt f1 f2 f3, [.c 6 3 true, .t 7])) (hc1 : K_l01Ok P f1) (hc2 : K_l01Own P f2) (hc3 : K_l04At P f3) : K_spSubtermAt P g := by
  intro g e nn xs hf
  obtain ⟨k, n, en, ks, rfl⟩ := Ex.ex e
  rw [eE_mk]
  refine af_of_res hr hm rfl fun hb => ?_
  simp +contextual -implicitDefEqProofs only [k_spSubtermAt, eG, go_sem, eI, eB, ↓reduceIte, Nat.reduceEqDiff, Nat.reduceAdd, Nat.reduceLeDiff, Nat.reduceMul, Nat.reduceBEq, Nat.reduceBneDiff, Nat.reduceLT, Nat.reduceSub, decide_true, decide_false, and_self, true_and, and_true, false_and, and_false, not_true_eq_false, not_false_eq_true, false_implies, true_implies, implies_true, ge_iff_le, Bool.false_eq_true, List.cons_append, List.nil_append, Int.ofNat_lt, List.length_map, Int.natCast_nonneg, Nat.zero_lt_one]
  refine callQ_self (ds := [eG g, .pt (eE (.mk k n en ks)) 0]) ?_ (hc1 g (.mk k n en ks)) ?_
  · rw [eE_mk]; exact rfl
  cases hv : (okG g && okE g (.mk k n en ks))
  · simp +contextual -implicitDefEqProofs only [hv, bne, Bool.not_true, Bool.not_false, Bool.true_and, Bool.false_and, Bool.and_true, Bool.and_false, Bool.true_or, Bool.false_or, Bool.or_true, Bool.or_false, go_sem, eI, eB, ↓reduceIte, Nat.reduceEqDiff, Nat.reduceAdd, Nat.reduceLeDiff, Nat.reduceMul, Nat.reduceBEq, Nat.reduceBneDiff, Nat.reduceLT, Nat.reduceSub, decide_true, decide_false, and_self, true_and, and_true, false_and, and_false, not_true_eq_false, not_false_eq_true, false_implies, true_implies, implies_true, ge_iff_le, Bool.false_eq_true, List.cons_append, List.nil_append, Int.ofNat_lt, List.length_map, Int.natCast_nonneg, Nat.zero_lt_one]
    simp only [subAt, hv, Bool.false_eq_true, if_false, eE_E0]
    exact ⟨D.Le.refl _, D.Le.refl _⟩
  have hl := hc3 (.mk k n en ks) nn xs hf
  have hfa := fitE_atE xs _ false hf
  generalize hat : atE (.mk k n en ks) xs false = q at hl hfa
  obtain ⟨node, bl, ok⟩ := q
  simp only at hl hfa
  simp +contextual -implicitDefEqProofs only [hv, bne, Bool.not_true, Bool.not_false, Bool.true_and, Bool.false_and, Bool.and_true, Bool.and_false, Bool.true_or, Bool.false_or, Bool.or_true, Bool.or_false, go_sem, eI, eB, ↓reduceIte, Nat.reduceEqDiff, Nat.reduceAdd, Nat.reduceLeDiff, Nat.reduceMul, Nat.reduceBEq, Nat.reduceBneDiff, Nat.reduceLT, Nat.reduceSub, decide_true, decide_false, and_self, true_and, and_true, false_and, and_false, not_true_eq_false, not_false_eq_true, false_implies, true_implies, implies_true, ge_iff_le, Bool.false_eq_true, List.cons_append, List.nil_append, Int.ofNat_lt, List.length_map, Int.natCast_nonneg, Nat.zero_lt_one]
  refine clsU_self (i := 4) (nn := some false) (usz := 3) rfl rfl (by rw [eE_mk] at hl; exact hl) ?_
  cases ok
  · simp +contextual -implicitDefEqProofs only [bne, Bool.not_true, Bool.not_false, Bool.true_and, Bool.false_and, Bool.and_true, Bool.and_false, Bool.true_or, Bool.false_or, Bool.or_true, Bool.or_false, eB, go_sem, eI, eB, ↓reduceIte, Nat.reduceEqDiff, Nat.reduceAdd, Nat.reduceLeDiff, Nat.reduceMul, Nat.reduceBEq, Nat.reduceBneDiff, Nat.reduceLT, Nat.reduceSub, decide_true, decide_false, and_self, true_and, and_true, false_and, and_false, not_true_eq_false, not_false_eq_true, false_implies, true_implies, implies_true, ge_iff_le, Bool.false_eq_true, List.cons_append, List.nil_append, Int.ofNat_lt, List.length_map, Int.natCast_nonneg, Nat.zero_lt_one]
    simp only [subAt, hv, hat, Bool.false_eq_true, if_false, if_true, eE_E0]
    exact ⟨D.Le.refl _, D.Le.refl _⟩
  simp +contextual -implicitDefEqProofs only [bne, Bool.not_true, Bool.not_false, Bool.true_and, Bool.false_and, Bool.and_true, Bool.and_false, Bool.true_or, Bool.false_or, Bool.or_true, Bool.or_false, eB, go_sem, eI, eB, ↓reduceIte, Nat.reduceEqDiff, Nat.reduceAdd, Nat.reduceLeDiff, Nat.reduceMul, Nat.reduceBEq, Nat.reduceBneDiff, Nat.reduceLT, Nat.reduceSub, decide_true, decide_false, and_self, true_and, and_true, false_and, and_false, not_true_eq_false, not_false_eq_true, false_implies, true_implies, implies_true, ge_iff_le, Bool.false_eq_true, List.cons_append, List.nil_append, Int.ofNat_lt, List.length_map, Int.natCast_nonneg, Nat.zero_lt_one]
  refine callQ_self ?_ (hc2 node hfa) ?_
  · exact rfl
  simp only [subAt, hv, hat, if_true]
  cases n1 : (eE (cpE node)).noPtr
  all_goals
    simp +contextual -implicitDefEqProofs only [n1, encE.sub, eE_size, eE_isAg, bne, Bool.not_true, Bool.not_false, Bool.true_and, Bool.false_and, Bool.and_true, Bool.and_false, Bool.true_or, Bool.false_or, Bool.or_true, Bool.or_false, go_sem, eI, eB, ↓reduceIte, Nat.reduceEqDiff, Nat.reduceAdd, Nat.reduceLeDiff, Nat.reduceMul, Nat.reduceBEq, Nat.reduceBneDiff, Nat.reduceLT, Nat.reduceSub, decide_true, decide_false, and_self, true_and, and_true, false_and, and_false, not_true_eq_false, not_false_eq_true, false_implies, true_implies, implies_true, ge_iff_le, Bool.false_eq_true, List.cons_append, List.nil_append, Int.ofNat_lt, List.length_map, Int.natCast_nonneg, Nat.zero_lt_one]

def k_imSubtermAt (f1 f2 f3 : Nat) : RC :=
 (.seq
  (.reg false [⟨none, .box 3 2 (.t 0)⟩,
    ⟨none, .box 4 3 (.t 1)⟩,
    ⟨none, .zer 6 3 (.ag [(.sc (.int .i64 0)), (.sc (.int .i64 0)), (.ls (some true) 3 [])])⟩,
    ⟨none, .mv 7 (.c (.sc (.int .i64 0)))⟩])
  ((.seq
   ((.seq
    (.reg false [⟨none, .ld 11 true 2 (.t 3)⟩,
      ⟨none, .ld 12 true 3 (.t 4)⟩,
      ⟨none, .call (some 13) f1 [(.t 11), (.t 12)]⟩,
      ⟨none, .un 14 .not (.t 13)⟩])
    (.cond (.t 14)
     ((.seq
      (.reg false [⟨none, .bld 15 (.ag [(.sc (.int .i64 0)), (.sc (.int .i64 0)), (.ls (some true) 3 [])]) []⟩,
        ⟨none, .st 3 (.t 6) (.t 15)⟩,
        ⟨none, .mv 7 (.c (.sc (.int .i64 1)))⟩])
      (.ret)))
     (.skip))))
   ((.seq
    (.reg false [⟨none, .ld 17 true 3 (.t 4)⟩,
      ⟨none, .mv 18 (.t 2)⟩,
      ⟨none, .call (some 19) f2 [(.t 17), (.t 18)]⟩,
      ⟨none, .mv 16 (.t 19)⟩,
      ⟨none, .ext 20 (.t 16) 0⟩,
      ⟨none, .ext 21 (.t 16) 1⟩,
      ⟨none, .ext 22 (.t 16) 2⟩,
      ⟨none, .zer 8 3 (.ag [(.sc (.int .i64 0)), (.sc (.int .i64 0)), (.ls (some true) 3 [])])⟩,
      ⟨none, .st 3 (.t 8) (.t 20)⟩,
      ⟨none, .mv 9 (.t 21)⟩,
      ⟨none, .mv 10 (.t 22)⟩])
    ((.seq
     ((.seq
      (.reg false [⟨none, .mv 23 (.t 10)⟩,
        ⟨none, .un 24 .not (.t 23)⟩])
      (.cond (.t 24)
       ((.seq
        (.reg false [⟨none, .bld 25 (.ag [(.sc (.int .i64 0)), (.sc (.int .i64 0)), (.ls (some true) 3 [])]) []⟩,
          ⟨none, .st 3 (.t 6) (.t 25)⟩,
          ⟨none, .mv 7 (.c (.sc (.int .i64 2)))⟩])
        (.ret)))
       (.skip))))
     ((.seq
      (.reg false [⟨none, .ld 26 true 3 (.t 8)⟩,
        ⟨none, .call (some 27) f3 [(.t 26)]⟩,
        ⟨none, .st 3 (.t 6) (.t 27)⟩,
        ⟨none, .mv 7 (.c (.sc (.int .i64 0)))⟩])
      (.ret))))))))))
def K_imSubtermAt (P : Program) (fno : Nat) : Prop := ∀ (g : Int × Int) (e : Ex) (nn : Option Bool) (xs : List Int) (hf : fitE e), AF P fno [eG g, eE e, .ls nn 1 (xs.map eI)] (.tup ([.own (eE (subAt g e xs).1), .own (eI (subAt g e xs).2)]))
theorem a_imSubtermAt {P : Program} (hm : P.follows .mixedOrders = true) {g f1 f2 f3 : Nat} (hr : resF P g = some (28, k_imSubtermAt f1 f2 f3, [.c 6 3 true, .t 7])) (hc1 : K_validExpr P f1) (hc2 : K_nodeAt P f2) (hc3 : K_copyExpr P f3) : K_imSubtermAt P g := by
  intro g e nn xs hf
  obtain ⟨k, n, en, ks, rfl⟩ := Ex.ex e
  rw [eE_mk]
  refine af_of_res hr hm rfl fun hb => ?_
  simp +contextual -implicitDefEqProofs only [k_imSubtermAt, eG, go_sem, eI, eB, ↓reduceIte, Nat.reduceEqDiff, Nat.reduceAdd, Nat.reduceLeDiff, Nat.reduceMul, Nat.reduceBEq, Nat.reduceBneDiff, Nat.reduceLT, Nat.reduceSub, decide_true, decide_false, and_self, true_and, and_true, false_and, and_false, not_true_eq_false, not_false_eq_true, false_implies, true_implies, implies_true, ge_iff_le, Bool.false_eq_true, List.cons_append, List.nil_append, Int.ofNat_lt, List.length_map, Int.natCast_nonneg, Nat.zero_lt_one]
  refine callQ_self (ds := [eG g, eE (.mk k n en ks)]) ?_ (hc1 g (.mk k n en ks)) ?_
  · rw [eE_mk]; exact rfl
  cases hv : (okG g && okE g (.mk k n en ks))
  · simp +contextual -implicitDefEqProofs only [hv, bne, Bool.not_true, Bool.not_false, Bool.true_and, Bool.false_and, Bool.and_true, Bool.and_false, Bool.true_or, Bool.false_or, Bool.or_true, Bool.or_false, go_sem, eI, eB, ↓reduceIte, Nat.reduceEqDiff, Nat.reduceAdd, Nat.reduceLeDiff, Nat.reduceMul, Nat.reduceBEq, Nat.reduceBneDiff, Nat.reduceLT, Nat.reduceSub, decide_true, decide_false, and_self, true_and, and_true, false_and, and_false, not_true_eq_false, not_false_eq_true, false_implies, true_implies, implies_true, ge_iff_le, Bool.false_eq_true, List.cons_append, List.nil_append, Int.ofNat_lt, List.length_map, Int.natCast_nonneg, Nat.zero_lt_one]
    simp only [subAt, hv, Bool.false_eq_true, if_false, eE_E0]
    exact ⟨D.Le.refl _, D.Le.refl _⟩
  have hl := hc2 (.mk k n en ks) nn xs hf
  have hfa := fitE_atE xs _ false hf
  unfold nodeE at hl
  generalize hat : atE (.mk k n en ks) xs false = q at hl hfa
  obtain ⟨node, bl, ok⟩ := q
  simp only at hl hfa
  simp +contextual -implicitDefEqProofs only [hv, bne, Bool.not_true, Bool.not_false, Bool.true_and, Bool.false_and, Bool.and_true, Bool.and_false, Bool.true_or, Bool.false_or, Bool.or_true, Bool.or_false, go_sem, eI, eB, ↓reduceIte, Nat.reduceEqDiff, Nat.reduceAdd, Nat.reduceLeDiff, Nat.reduceMul, Nat.reduceBEq, Nat.reduceBneDiff, Nat.reduceLT, Nat.reduceSub, decide_true, decide_false, and_self, true_and, and_true, false_and, and_false, not_true_eq_false, not_false_eq_true, false_implies, true_implies, implies_true, ge_iff_le, Bool.false_eq_true, List.cons_append, List.nil_append, Int.ofNat_lt, List.length_map, Int.natCast_nonneg, Nat.zero_lt_one]
  refine callQ_self (ds := [eE (.mk k n en ks), .ls nn 1 (xs.map eI)]) (by rw [eE_mk]; rfl) hl ?_
  cases ok
  · simp +contextual -implicitDefEqProofs only [bne, Bool.not_true, Bool.not_false, Bool.true_and, Bool.false_and, Bool.and_true, Bool.and_false, Bool.true_or, Bool.false_or, Bool.or_true, Bool.or_false, eB, eE_E0, go_sem, eI, eB, ↓reduceIte, Nat.reduceEqDiff, Nat.reduceAdd, Nat.reduceLeDiff, Nat.reduceMul, Nat.reduceBEq, Nat.reduceBneDiff, Nat.reduceLT, Nat.reduceSub, decide_true, decide_false, and_self, true_and, and_true, false_and, and_false, not_true_eq_false, not_false_eq_true, false_implies, true_implies, implies_true, ge_iff_le, Bool.false_eq_true, List.cons_append, List.nil_append, Int.ofNat_lt, List.length_map, Int.natCast_nonneg, Nat.zero_lt_one]
    simp only [subAt, hv, hat, Bool.false_eq_true, if_false, if_true, eE_E0]
    exact ⟨D.Le.refl _, D.Le.refl _⟩
  cases n2 : (eE node).noPtr
  all_goals
    simp +contextual -implicitDefEqProofs only [bne, Bool.not_true, Bool.not_false, Bool.true_and, Bool.false_and, Bool.and_true, Bool.and_false, Bool.true_or, Bool.false_or, Bool.or_true, Bool.or_false, eB, n2, encE.sub, eE_size, eE_isAg, go_sem, eI, eB, ↓reduceIte, Nat.reduceEqDiff, Nat.reduceAdd, Nat.reduceLeDiff, Nat.reduceMul, Nat.reduceBEq, Nat.reduceBneDiff, Nat.reduceLT, Nat.reduceSub, decide_true, decide_false, and_self, true_and, and_true, false_and, and_false, not_true_eq_false, not_false_eq_true, false_implies, true_implies, implies_true, ge_iff_le, Bool.false_eq_true, List.cons_append, List.nil_append, Int.ofNat_lt, List.length_map, Int.natCast_nonneg, Nat.zero_lt_one]
    refine callQ_self ?_ (hc3 node hfa) ?_
    · exact rfl
    simp only [subAt, hv, hat, if_true]
    cases n1 : (eE (cpE node)).noPtr
    all_goals
      simp +contextual -implicitDefEqProofs only [n1, encE.sub, eE_size, eE_isAg, bne, Bool.not_true, Bool.not_false, Bool.true_and, Bool.false_and, Bool.and_true, Bool.and_false, Bool.true_or, Bool.false_or, Bool.or_true, Bool.or_false, go_sem, eI, eB, ↓reduceIte, Nat.reduceEqDiff, Nat.reduceAdd, Nat.reduceLeDiff, Nat.reduceMul, Nat.reduceBEq, Nat.reduceBneDiff, Nat.reduceLT, Nat.reduceSub, decide_true, decide_false, and_self, true_and, and_true, false_and, and_false, not_true_eq_false, not_false_eq_true, false_implies, true_implies, implies_true, ge_iff_le, Bool.false_eq_true, List.cons_append, List.nil_append, Int.ofNat_lt, List.length_map, Int.natCast_nonneg, Nat.zero_lt_one]

theorem cntL_congr {α β : Type} {f : α → Nat} {g : β → Nat} {h : α → β} : ∀ {l : List α}, (∀ x ∈ l, g (h x) = f x) → cntL g (l.map h) = cntL f l
  | [], _ => rfl
  | x :: l, hx => by simp only [List.map_cons, cntL, hx x (by simp), cntL_congr (l := l) fun y hy => hx y (by simp [hy])]
theorem cntE_eq (e : Ex) : cntE e = 2 + cntE0 e := by obtain ⟨k, n, nn, ks, rfl⟩ := Ex.ex e; rw [cntE_mk, cntE0_mk]
theorem cntE_tE : ∀ e : Ex, cntE (tE e) = cntE e :=
  Ex.ind fun k n nn ks ih => by rw [tE_mk, cntE_mk, cntE_mk, cntL_congr ih]
theorem cntE_cpE : ∀ e : Ex, cntE (cpE e) = cntE e :=
  Ex.ind fun k n nn ks ih => by rw [cpE_mk, cntE_mk, cntE_mk, cntL_congr ih]
theorem cntL_getD {l : List Ex} {i : Nat} (h : i < l.length) : cntE (l.getD i default) ≤ cntL cntE l := by
  induction l generalizing i with
  | nil => simp at h
  | cons x l ih =>
    cases i with
    | zero => simp [cntL]
    | succ i =>
      have := ih (i := i) (by simpa using h)
      simp only [List.getD_cons_succ, cntL]
      omega
theorem cntE_atE : ∀ (xs : List Int) (e : Ex) (b : Bool), cntE (atE e xs b).1 ≤ cntE e
  | [], e, b => by rw [atE]; exact Nat.le_refl _
  | p :: ps, e, b => by
    rw [atE]
    split
    · next hp =>
      obtain ⟨k, n, nn, ks, rfl⟩ := Ex.ex e
      have h1 := cntE_atE ps (ks.getD p.toNat default) (b || (Ex.mk k n nn ks).k == 5)
      have h2 := cntL_getD (l := ks) (isIn_lt hp).2.2
      rw [cntE_mk]
      simp only [Ex.ks_mk]
      omega
    · exact Nat.le_refl _
theorem szE_cnt : ∀ (e : Ex) (l : Int), 0 ≤ l → l ≤ 1048576 → 0 ≤ szE e l → (cntE0 e : Int) = 2 * (l - szE e l) :=
  Ex.ind fun k n nn ks ih l h1 h2 h => by
    have key : ∀ (ks : List Ex), (∀ e ∈ ks, ∀ l : Int, 0 ≤ l → l ≤ 1048576 → 0 ≤ szE e l → (cntE0 e : Int) = 2 * (l - szE e l)) → ∀ m : Int, 0 ≤ m → m ≤ 1048576 → 0 ≤ szL szE ks m → (cntL cntE ks : Int) = 2 * (m - szL szE ks m) + 2 * ks.length := by
      intro ks
      induction ks with
      | nil => intro _ m _ _ _; simp [cntL, szL]
      | cons x ks ihk =>
        intro hx m m1 m2 m3
        have hm : ¬ m < 0 := by omega
        simp only [szL, if_neg hm] at m3 ⊢
        have hin := szE_in x m m1 m2
        have h0 : 0 ≤ szE x m := by
          refine Classical.byContradiction fun hn => ?_
          rw [szL_neg (by omega)] at m3
          omega
        have e1 := hx x (by simp) m m1 m2 h0
        have e2 := ihk (fun e he => hx e (by simp [he])) (szE x m) h0 (by omega) m3
        simp only [cntL, cntE_eq, List.length_cons]
        push_cast
        omega
    rw [szE_mk] at h ⊢
    obtain ⟨p1, p2⟩ := nx_fit h
    simp only [szS] at h p1 ⊢
    have hc : 0 ≤ cut (l - ks.length) := by
      refine Classical.byContradiction fun hn => ?_
      rw [szL_neg (by omega)] at p1
      omega
    obtain ⟨c1, c2⟩ := cut_nonneg hc
    have := key ks ih (cut (l - ks.length)) hc (by omega) p1
    rw [nx_pos (by omega), cntE0_mk, this]
    omega
theorem cntE0_subAt (g : Int × Int) (e : Ex) (xs : List Int) : cntE0 (subAt g e xs).1 ≤ cntE0 e := by
  have h1 := cntE_atE xs e false
  have h2 := cntE_cpE (atE e xs false).1
  rw [cntE_eq, cntE_eq] at h1
  rw [cntE_eq, cntE_eq] at h2
  unfold subAt
  split
  · split
    · simp only; omega
    · simp [E0, cntE0_mk, cntL]
  · simp [E0, cntE0_mk, cntL]
end Go.Ax
