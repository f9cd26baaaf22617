/- Contracts of functions of the seat, proved over the engine. No condition. -/
import Derived.Test.YtbnlielpckndkaaX3
set_option linter.unusedSimpArgs false
set_option linter.unusedVariables false
set_option linter.unnecessarySimpa false
namespace Go.Ax
set_option linter.unusedSimpArgs false
def orB (a : Int) (i : Nat) : Int := IntKind.i64.wrap (BitVec.ofInt 64 a ||| BitVec.ofInt 64 (IntKind.i64.wrap (2 ^ min i 64))).toNat
def atomAt (rows : List (SL Bool)) (x : Nat) : Nat → Int
  | 0 => 0
  | i + 1 => if (rows.getD i default).2.getD x false = true then orB (atomAt rows x i) i else atomAt rows x i
theorem atomAt_t {rows : List (SL Bool)} {x i : Nat} (hi : i < rows.length) (hx : x < rows[i].2.length) (h : rows[i].2[x] = true) : atomAt rows x (i + 1) = orB (atomAt rows x i) i := by
  simp [atomAt, hi, hx, h]
theorem atomAt_f {rows : List (SL Bool)} {x i : Nat} (hi : i < rows.length) (hx : x < rows[i].2.length) (h : rows[i].2[x] = false) : atomAt rows x (i + 1) = atomAt rows x i := by
  simp [atomAt, hi, hx, h]
theorem wrap_u64 {x : Int} (h1 : 0 ≤ x) (h2 : x ≤ 9223372036854775807) : IntKind.u64.wrap x = x := by
  simp [IntKind.wrap, IntKind.bits, IntKind.signed]
  omega

def k_atomOf : RC :=
 (.seq
  (.reg false [⟨none, .box 2 5 (.t 0)⟩,
    ⟨none, .mv 4 (.c (.sc (.int .i64 0)))⟩])
  ((.seq
   (.reg false [⟨none, .mv 5 (.c (.sc (.int .i64 0)))⟩])
   ((.seq
    ((.seq
     (.reg false [⟨none, .fa 8 3 (.t 2)⟩,
       ⟨none, .ld 9 false 1 (.t 8)⟩,
       ⟨none, .len 10 (.t 9)⟩,
       ⟨none, .mv 11 (.c (.sc (.int .i64 0)))⟩])
     (.blk 0
      (.loop
       ((.seq
        (.reg false [⟨none, .bin 12 .lss (.t 11) (.t 10)⟩])
        ((.seq
         (.cond (.t 12)
          (.skip)
          (.exit 0))
         ((.seq
          (.blk 1
           ((.seq
            (.reg false [⟨none, .mv 13 (.t 11)⟩,
              ⟨none, .ia 14 1 (.t 9) (.t 11)⟩,
              ⟨none, .ld 15 false 1 (.t 14)⟩,
              ⟨none, .mv 6 (.t 13)⟩,
              ⟨none, .mv 7 (.t 15)⟩])
            ((.seq
             (.reg false [⟨none, .mv 16 (.t 7)⟩,
               ⟨none, .mv 17 (.t 1)⟩,
               ⟨none, .ia 18 1 (.t 16) (.t 17)⟩,
               ⟨none, .ld 19 false 1 (.t 18)⟩])
             (.cond (.t 19)
              (.reg false [⟨none, .mv 20 (.t 5)⟩,
                ⟨none, .mv 21 (.t 6)⟩,
                ⟨none, .bin 22 .shl (.c (.sc (.int .i64 1))) (.t 21)⟩,
                ⟨none, .bin 23 .or (.t 20) (.t 22)⟩,
                ⟨none, .mv 5 (.t 23)⟩])
              (.skip)))))))
          (.reg false [⟨none, .bin 24 .add (.t 11) (.c (.sc (.int .i64 1)))⟩,
            ⟨none, .mv 11 (.t 24)⟩])))))))))))
    ((.seq
     (.reg false [⟨none, .mv 25 (.t 5)⟩,
       ⟨none, .mv 4 (.t 25)⟩])
     (.ret))))))))
def K_atomOf (P : Program) (f : Nat) : Prop := ∀ (m : Mo) (x : Int) (hx : 0 ≤ x) (hrow : ∀ r ∈ m.2.2.1.2, x < (r.2.length : Int)), AF P f [eM m, eI x] (.own (eI (atomAt m.2.2.1.2 x.toNat m.2.2.1.2.length)))
theorem a_atomOf {P : Program} (hm : P.follows .mixedOrders = true) {g : Nat} (hr : resF P g = some (26, k_atomOf, [.t 4])) : K_atomOf P g := by
  intro m x hx hrow
  refine af_of_res hr hm rfl fun hb => ?_
  have hb1 := hb.1
  simp only [eM, eS, D.bd, D.bdL, List.length_map] at hb1
  have hl := hb1.2.2.2.1.1
  unfold maxEl at hl
  simp +contextual -implicitDefEqProofs only [k_atomOf, eM, eS, List.length_map, go_sem, eI, eB, ↓reduceIte, Nat.reduceEqDiff, Nat.reduceAdd, Nat.reduceLeDiff, Nat.reduceMul, Nat.reduceBEq, Nat.reduceBneDiff, Nat.reduceLT, Nat.reduceSub, decide_true, decide_false, and_self, true_and, and_true, false_and, and_false, not_true_eq_false, not_false_eq_true, false_implies, true_implies, implies_true, ge_iff_le, Bool.false_eq_true, List.cons_append, List.nil_append]
  refine vc_on (α := Nat) [5, 6, 7, 11, 12, 13, 14, 15, 16, 17, 18, 19, 20, 21, 22, 23, 24] (fun i => [(11, .im none (.sc (.int .i64 i))), (5, .im none (.sc (.int .i64 (atomAt m.2.2.1.2 x.toNat i))))]) (fun i => i ≤ m.2.2.1.2.length) (fun i => m.2.2.1.2.length - i) 0
    (by simp only [subEnv, go_sem, ↓reduceIte, Nat.reduceEqDiff, List.length_map, atomAt]; simp) (Nat.zero_le _) ?_
  intro i j1
  by_cases hi : i < m.2.2.1.2.length
  · have e1 := at_map (f := eS 1 eB) hi
    have hr1 := hrow m.2.2.1.2[i] (List.getElem_mem _)
    have hx2 : x.toNat < m.2.2.1.2[i].2.length := by omega
    have e2 := at_map (f := eB) hx2
    simp +contextual -implicitDefEqProofs only [eS, e1, e2, hi, hx, hr1, eM, Int.ofNat_lt, List.length_map, Int.natCast_nonneg, go_sem, eI, eB, ↓reduceIte, Nat.reduceEqDiff, Nat.reduceAdd, Nat.reduceLeDiff, Nat.reduceMul, Nat.reduceBEq, Nat.reduceBneDiff, Nat.reduceLT, Nat.reduceSub, decide_true, decide_false, and_self, true_and, and_true, false_and, and_false, not_true_eq_false, not_false_eq_true, false_implies, true_implies, implies_true, ge_iff_le, Bool.false_eq_true, List.cons_append, List.nil_append]
    cases hv : m.2.2.1.2[i].2[x.toNat]
    · have ha := atomAt_f hi hx2 hv
      simp +contextual -implicitDefEqProofs only [hv, Int.natCast_nonneg, go_sem, eI, eB, ↓reduceIte, Nat.reduceEqDiff, Nat.reduceAdd, Nat.reduceLeDiff, Nat.reduceMul, Nat.reduceBEq, Nat.reduceBneDiff, Nat.reduceLT, Nat.reduceSub, decide_true, decide_false, and_self, true_and, and_true, false_and, and_false, not_true_eq_false, not_false_eq_true, false_implies, true_implies, implies_true, ge_iff_le, Bool.false_eq_true, List.cons_append, List.nil_append]
      rw [wrap_i64 (by omega) (by omega)]
      refine ⟨i + 1, by omega, by omega, ?_⟩
      rw [ha]
      exact Ent.env (by simp only [subEnv, go_sem, ↓reduceIte, Nat.reduceEqDiff, List.length_map]; simp)
    · have ha := atomAt_t hi hx2 hv
      simp +contextual -implicitDefEqProofs only [hv, Int.natCast_nonneg, go_sem, eI, eB, ↓reduceIte, Nat.reduceEqDiff, Nat.reduceAdd, Nat.reduceLeDiff, Nat.reduceMul, Nat.reduceBEq, Nat.reduceBneDiff, Nat.reduceLT, Nat.reduceSub, decide_true, decide_false, and_self, true_and, and_true, false_and, and_false, not_true_eq_false, not_false_eq_true, false_implies, true_implies, implies_true, ge_iff_le, Bool.false_eq_true, List.cons_append, List.nil_append]
      rw [wrap_i64 (x := (i : Int) + 1) (by omega) (by omega)]
      refine ⟨i + 1, by omega, by omega, ?_⟩
      rw [ha]
      exact Ent.env (by simp only [subEnv, go_sem, ↓reduceIte, Nat.reduceEqDiff, List.length_map]; simp; rfl)
  · simp +contextual -implicitDefEqProofs only [hi, Int.ofNat_lt, List.length_map, Int.natCast_nonneg, eS, eM, go_sem, eI, eB, ↓reduceIte, Nat.reduceEqDiff, Nat.reduceAdd, Nat.reduceLeDiff, Nat.reduceMul, Nat.reduceBEq, Nat.reduceBneDiff, Nat.reduceLT, Nat.reduceSub, decide_true, decide_false, and_self, true_and, and_true, false_and, and_false, not_true_eq_false, not_false_eq_true, false_implies, true_implies, implies_true, ge_iff_le, Bool.false_eq_true, List.cons_append, List.nil_append]
    rw [show i = m.2.2.1.2.length by omega]
    exact D.Le.refl _

def k_l05Atom : RC :=
 (.seq
  (.reg false [⟨none, .mv 4 (.c (.sc (.int .i64 0)))⟩])
  ((.seq
   (.reg false [⟨none, .mv 5 (.c (.sc (.int .i64 0)))⟩])
   ((.seq
    ((.seq
     (.reg false [⟨none, .mv 6 (.c (.sc (.int .i64 0)))⟩])
     (.blk 0
      (.loop
       ((.seq
        ((.seq
         (.reg false [⟨none, .mv 7 (.t 6)⟩,
           ⟨none, .mv 8 (.t 0)⟩,
           ⟨none, .len 9 (.t 8)⟩,
           ⟨none, .bin 10 .lss (.t 7) (.t 9)⟩])
         (.cond (.t 10)
          (.skip)
          (.exit 0))))
        ((.seq
         (.blk 1
          ((.seq
           (.reg false [⟨none, .mv 13 (.t 0)⟩,
             ⟨none, .mv 14 (.t 6)⟩,
             ⟨none, .ia 15 1 (.t 13) (.t 14)⟩,
             ⟨none, .ld 16 false 1 (.t 15)⟩,
             ⟨none, .mv 17 (.t 1)⟩,
             ⟨none, .ia 18 1 (.t 16) (.t 17)⟩,
             ⟨none, .ld 19 false 1 (.t 18)⟩])
           (.cond (.t 19)
            (.reg false [⟨none, .mv 20 (.t 5)⟩,
              ⟨none, .mv 21 (.t 6)⟩,
              ⟨none, .cvt 22 .u64 (.t 21)⟩,
              ⟨none, .bin 23 .shl (.c (.sc (.int .i64 1))) (.t 22)⟩,
              ⟨none, .bin 24 .or (.t 20) (.t 23)⟩,
              ⟨none, .mv 5 (.t 24)⟩])
            (.skip)))))
         (.reg false [⟨none, .mv 11 (.t 6)⟩,
           ⟨none, .bin 12 .add (.t 11) (.c (.sc (.int .i64 1)))⟩,
           ⟨none, .mv 6 (.t 12)⟩])))))))))
    ((.seq
     (.reg false [⟨none, .mv 25 (.t 5)⟩,
       ⟨none, .mv 4 (.t 25)⟩])
     (.ret))))))))
def K_l05Atom (P : Program) (f : Nat) : Prop := ∀ (t : SL (SL Bool)) (x : Int) (hx : 0 ≤ x) (hrow : ∀ r ∈ t.2, x < (r.2.length : Int)), AF P f [eS 1 (eS 1 eB) t, eI x] (.own (eI (atomAt t.2 x.toNat t.2.length)))
theorem a_l05Atom {P : Program} (hm : P.follows .mixedOrders = true) {g : Nat} (hr : resF P g = some (26, k_l05Atom, [.t 4])) : K_l05Atom P g := by
  intro t x hx hrow
  refine af_of_res hr hm rfl fun hb => ?_
  have hl := bd_ls hb.1
  simp only [List.length_map] at hl
  simp +contextual -implicitDefEqProofs only [k_l05Atom, eS, List.length_map, go_sem, eI, eB, ↓reduceIte, Nat.reduceEqDiff, Nat.reduceAdd, Nat.reduceLeDiff, Nat.reduceMul, Nat.reduceBEq, Nat.reduceBneDiff, Nat.reduceLT, Nat.reduceSub, decide_true, decide_false, and_self, true_and, and_true, false_and, and_false, not_true_eq_false, not_false_eq_true, false_implies, true_implies, implies_true, ge_iff_le, Bool.false_eq_true, List.cons_append, List.nil_append]
  refine vc_on (α := Nat) [5, 6, 7, 8, 9, 10, 11, 12, 13, 14, 15, 16, 17, 18, 19, 20, 21, 22, 23, 24] (fun i => [(6, .im none (.sc (.int .i64 i))), (5, .im none (.sc (.int .i64 (atomAt t.2 x.toNat i))))]) (fun i => i ≤ t.2.length) (fun i => t.2.length - i) 0
    (by simp only [subEnv, go_sem, ↓reduceIte, Nat.reduceEqDiff, List.length_map, atomAt]; simp) (Nat.zero_le _) ?_
  intro i j1
  by_cases hi : i < t.2.length
  · have e1 := at_map (f := eS 1 eB) hi
    have hr1 := hrow t.2[i] (List.getElem_mem _)
    have hx2 : x.toNat < t.2[i].2.length := by omega
    have e2 := at_map (f := eB) hx2
    simp +contextual -implicitDefEqProofs only [eS, e1, e2, hi, hx, hr1, Int.ofNat_lt, List.length_map, Int.natCast_nonneg, go_sem, eI, eB, ↓reduceIte, Nat.reduceEqDiff, Nat.reduceAdd, Nat.reduceLeDiff, Nat.reduceMul, Nat.reduceBEq, Nat.reduceBneDiff, Nat.reduceLT, Nat.reduceSub, decide_true, decide_false, and_self, true_and, and_true, false_and, and_false, not_true_eq_false, not_false_eq_true, false_implies, true_implies, implies_true, ge_iff_le, Bool.false_eq_true, List.cons_append, List.nil_append]
    cases hv : t.2[i].2[x.toNat]
    · have ha := atomAt_f hi hx2 hv
      simp +contextual -implicitDefEqProofs only [hv, Int.natCast_nonneg, go_sem, eI, eB, ↓reduceIte, Nat.reduceEqDiff, Nat.reduceAdd, Nat.reduceLeDiff, Nat.reduceMul, Nat.reduceBEq, Nat.reduceBneDiff, Nat.reduceLT, Nat.reduceSub, decide_true, decide_false, and_self, true_and, and_true, false_and, and_false, not_true_eq_false, not_false_eq_true, false_implies, true_implies, implies_true, ge_iff_le, Bool.false_eq_true, List.cons_append, List.nil_append]
      rw [wrap_i64 (by omega) (by omega)]
      refine ⟨i + 1, by omega, by omega, ?_⟩
      rw [ha]
      exact Ent.env (by simp only [subEnv, go_sem, ↓reduceIte, Nat.reduceEqDiff, List.length_map]; simp)
    · have ha := atomAt_t hi hx2 hv
      simp +contextual -implicitDefEqProofs only [hv, Int.natCast_nonneg, go_sem, eI, eB, ↓reduceIte, Nat.reduceEqDiff, Nat.reduceAdd, Nat.reduceLeDiff, Nat.reduceMul, Nat.reduceBEq, Nat.reduceBneDiff, Nat.reduceLT, Nat.reduceSub, decide_true, decide_false, and_self, true_and, and_true, false_and, and_false, not_true_eq_false, not_false_eq_true, false_implies, true_implies, implies_true, ge_iff_le, Bool.false_eq_true, List.cons_append, List.nil_append]
      rw [wrap_i64 (x := (i : Int) + 1) (by omega) (by omega)]
      rw [wrap_u64 (x := (i : Int)) (by omega) (by omega)]
      refine ⟨i + 1, by omega, by omega, ?_⟩
      rw [ha]
      exact Ent.env (by simp only [subEnv, go_sem, ↓reduceIte, Nat.reduceEqDiff, List.length_map]; simp; rfl)
  · simp +contextual -implicitDefEqProofs only [hi, Int.ofNat_lt, List.length_map, Int.natCast_nonneg, eS, go_sem, eI, eB, ↓reduceIte, Nat.reduceEqDiff, Nat.reduceAdd, Nat.reduceLeDiff, Nat.reduceMul, Nat.reduceBEq, Nat.reduceBneDiff, Nat.reduceLT, Nat.reduceSub, decide_true, decide_false, and_self, true_and, and_true, false_and, and_false, not_true_eq_false, not_false_eq_true, false_implies, true_implies, implies_true, ge_iff_le, Bool.false_eq_true, List.cons_append, List.nil_append]
    rw [show i = t.2.length by omega]
    exact D.Le.refl _
theorem okMo_pts {m : Mo} (h : okMo m = true) : 1 ≤ m.2.1 ∧ m.2.1 ≤ 8 := by
  simp only [okMo, testsOk, Bool.and_eq_true, isIn, decide_eq_true_eq] at h
  exact h.1.2.1

end Go.Ax
