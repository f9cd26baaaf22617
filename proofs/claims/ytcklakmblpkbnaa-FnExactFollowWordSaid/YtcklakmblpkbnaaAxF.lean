/- THE ENGINE, PART 6: a generator of conditions over the register code, and its soundness. No condition. -/
import Derived.Test.YtcklakmblpkbnaaAxE
set_option linter.unusedSimpArgs false
set_option linter.unusedVariables false
namespace Go.Ax
set_option linter.unusedSimpArgs false
set_option maxRecDepth 20000
set_option maxHeartbeats 4000000

def k_l01Word (f1 f2 f3 : Nat) : RC :=
 (.seq
  (.reg false [⟨none, .box 2 2 (.t 0)⟩,
    ⟨none, .mv 4 (.c (.sc (.bool false)))⟩])
  ((.seq
   ((.seq
    (.reg true [⟨none, .ld 7 true 2 (.t 2)⟩,
      ⟨none, .call (some 8) f1 [(.t 7)]⟩,
      ⟨none, .un 9 .not (.t 8)⟩,
      ⟨none, .mv 10 (.t 9)⟩,
      ⟨some (10, false), .mv 11 (.t 1)⟩,
      ⟨some (10, false), .nck 12 (.t 11)⟩,
      ⟨some (10, false), .fa 13 1 (.t 12)⟩,
      ⟨some (10, false), .ld 14 false 1 (.t 13)⟩,
      ⟨some (10, false), .len 15 (.t 14)⟩,
      ⟨some (10, false), .bin 16 .gtr (.t 15) (.c (.sc (.int .i64 10)))⟩,
      ⟨none, .pick 17 (.t 10) (.c (.sc (.bool true))) (.t 16)⟩,
      ⟨none, .mv 18 (.t 17)⟩,
      ⟨some (18, false), .mv 19 (.t 1)⟩,
      ⟨some (18, false), .nck 20 (.t 19)⟩,
      ⟨some (18, false), .fa 21 0 (.t 20)⟩,
      ⟨some (18, false), .ld 22 false 1 (.t 21)⟩,
      ⟨some (18, false), .len 23 (.t 22)⟩,
      ⟨some (18, false), .mv 24 (.t 1)⟩,
      ⟨some (18, false), .nck 25 (.t 24)⟩,
      ⟨some (18, false), .fa 26 1 (.t 25)⟩,
      ⟨some (18, false), .ld 27 false 1 (.t 26)⟩,
      ⟨some (18, false), .len 28 (.t 27)⟩,
      ⟨some (18, false), .bin 29 .add (.t 28) (.c (.sc (.int .i64 1)))⟩,
      ⟨some (18, false), .bin 30 .neq (.t 23) (.t 29)⟩,
      ⟨none, .pick 31 (.t 18) (.c (.sc (.bool true))) (.t 30)⟩])
    (.cond (.t 31)
     ((.seq
      (.reg false [⟨none, .mv 4 (.c (.sc (.bool false)))⟩])
      (.ret)))
     (.skip))))
   ((.seq
    ((.seq
     (.reg false [⟨none, .mv 5 (.c (.sc (.int .i64 0)))⟩])
     (.blk 0
      (.loop
       ((.seq
        ((.seq
         (.reg false [⟨none, .mv 32 (.t 5)⟩,
           ⟨none, .mv 33 (.t 1)⟩,
           ⟨none, .nck 34 (.t 33)⟩,
           ⟨none, .fa 35 0 (.t 34)⟩,
           ⟨none, .ld 36 false 1 (.t 35)⟩,
           ⟨none, .len 37 (.t 36)⟩,
           ⟨none, .bin 38 .lss (.t 32) (.t 37)⟩])
         (.cond (.t 38)
          (.skip)
          (.exit 0))))
        ((.seq
         (.blk 1
          ((.seq
           (.reg true [⟨none, .mv 41 (.t 1)⟩,
             ⟨none, .nck 42 (.t 41)⟩,
             ⟨none, .fa 43 0 (.t 42)⟩,
             ⟨none, .ld 44 false 1 (.t 43)⟩,
             ⟨none, .mv 45 (.t 5)⟩,
             ⟨none, .ia 46 1 (.t 44) (.t 45)⟩,
             ⟨none, .ld 47 false 1 (.t 46)⟩,
             ⟨none, .ld 48 true 2 (.t 2)⟩,
             ⟨none, .call (some 49) f2 [(.t 48)]⟩,
             ⟨none, .bin 50 .sub (.t 49) (.c (.sc (.int .i64 1)))⟩,
             ⟨none, .call (some 51) f3 [(.t 47), (.c (.sc (.int .i64 0))), (.t 50)]⟩,
             ⟨none, .un 52 .not (.t 51)⟩])
           (.cond (.t 52)
            ((.seq
             (.reg false [⟨none, .mv 4 (.c (.sc (.bool false)))⟩])
             (.ret)))
            (.skip)))))
         (.reg false [⟨none, .mv 39 (.t 5)⟩,
           ⟨none, .bin 40 .add (.t 39) (.c (.sc (.int .i64 1)))⟩,
           ⟨none, .mv 5 (.t 40)⟩])))))))))
    ((.seq
     ((.seq
      (.reg false [⟨none, .mv 6 (.c (.sc (.int .i64 0)))⟩])
      (.blk 2
       (.loop
        ((.seq
         ((.seq
          (.reg false [⟨none, .mv 53 (.t 6)⟩,
            ⟨none, .mv 54 (.t 1)⟩,
            ⟨none, .nck 55 (.t 54)⟩,
            ⟨none, .fa 56 1 (.t 55)⟩,
            ⟨none, .ld 57 false 1 (.t 56)⟩,
            ⟨none, .len 58 (.t 57)⟩,
            ⟨none, .bin 59 .lss (.t 53) (.t 58)⟩])
          (.cond (.t 59)
           (.skip)
           (.exit 2))))
         ((.seq
          (.blk 3
           ((.seq
            (.reg true [⟨none, .mv 62 (.t 1)⟩,
              ⟨none, .nck 63 (.t 62)⟩,
              ⟨none, .fa 64 1 (.t 63)⟩,
              ⟨none, .ld 65 false 1 (.t 64)⟩,
              ⟨none, .mv 66 (.t 6)⟩,
              ⟨none, .ia 67 1 (.t 65) (.t 66)⟩,
              ⟨none, .ld 68 false 1 (.t 67)⟩,
              ⟨none, .fa 69 1 (.t 2)⟩,
              ⟨none, .ld 70 false 1 (.t 69)⟩,
              ⟨none, .bin 71 .sub (.t 70) (.c (.sc (.int .i64 1)))⟩,
              ⟨none, .call (some 72) f3 [(.t 68), (.c (.sc (.int .i64 0))), (.t 71)]⟩,
              ⟨none, .un 73 .not (.t 72)⟩])
            (.cond (.t 73)
             ((.seq
              (.reg false [⟨none, .mv 4 (.c (.sc (.bool false)))⟩])
              (.ret)))
             (.skip)))))
          (.reg false [⟨none, .mv 60 (.t 6)⟩,
            ⟨none, .bin 61 .add (.t 60) (.c (.sc (.int .i64 1)))⟩,
            ⟨none, .mv 6 (.t 61)⟩])))))))))
     ((.seq
      (.reg false [⟨none, .mv 4 (.c (.sc (.bool true)))⟩])
      (.ret))))))))))
def K_l01Word (P : Program) (f : Nat) : Prop := ∀ (g : Int × Int) (v : Wo), AF P f [eG g, .pt (eWo v) 0] (.own (eB (okG g && okWo g v)))
theorem a_l01Word {P : Program} (hm : P.follows .mixedOrders = true) {g f1 f2 f3 : Nat} (hr : resF P g = some (74, k_l01Word f1 f2 f3, [.t 4])) (hc1 : K_l01Sig P f1) (hc2 : K_l01Atoms P f2) (hc3 : K_l00In P f3) : K_l01Word P g := by
  intro g v
  refine af_of_res hr hm rfl fun hb => ?_
  have hb2 := hb.2.1
  simp only [eWo, eS, D.bd, D.bdL, List.length_map, maxEl] at hb2
  have hl := hb2.1.1
  have hl2 := hb2.2.1.1
  simp +contextual -implicitDefEqProofs only [k_l01Word, eG, eWo, eS, List.length_map, go_sem, eI, eB, ↓reduceIte, Nat.reduceEqDiff, Nat.reduceAdd, Nat.reduceLeDiff, Nat.reduceMul, Nat.reduceBEq, Nat.reduceBneDiff, Nat.reduceLT, Nat.reduceSub, decide_true, decide_false, and_self, true_and, and_true, false_and, and_false, not_true_eq_false, not_false_eq_true, false_implies, true_implies, implies_true, ge_iff_le, Bool.false_eq_true, List.cons_append, List.nil_append]
  refine callQ_self ?_ (hc1 g) ?_
  · exact rfl
  cases hg : okG g
  · simp +contextual -implicitDefEqProofs only [hg, bne, Bool.not_true, Bool.not_false, Bool.true_and, Bool.false_and, Bool.and_true, Bool.and_false, Bool.true_or, Bool.false_or, Bool.or_true, Bool.or_false, go_sem, eI, eB, ↓reduceIte, Nat.reduceEqDiff, Nat.reduceAdd, Nat.reduceLeDiff, Nat.reduceMul, Nat.reduceBEq, Nat.reduceBneDiff, Nat.reduceLT, Nat.reduceSub, decide_true, decide_false, and_self, true_and, and_true, false_and, and_false, not_true_eq_false, not_false_eq_true, false_implies, true_implies, implies_true, ge_iff_le, Bool.false_eq_true, List.cons_append, List.nil_append]
  have hg' := okG_iff hg
  have hp := atoms_le hg
  by_cases h1 : (v.2.2.length : Int) ≤ 10
  · have h1' : ¬ (v.2.2.length : Int) > 10 := by omega
    have hw := wrap_i64 (x := (v.2.2.length : Int) + 1) (by omega) (by omega)
    cases h2 : lenIs (v.2.2.length + 1) v.1
    · have h2' := h2
      simp only [lenIs] at h2'
      simp +contextual -implicitDefEqProofs only [okWo, traceOk, h1, h2, h1', hw, h2', gt_iff_lt, eS, List.length_map, bne, Bool.not_true, Bool.not_false, Bool.true_and, Bool.false_and, Bool.and_true, Bool.and_false, Bool.true_or, Bool.false_or, Bool.or_true, Bool.or_false, go_sem, eI, eB, ↓reduceIte, Nat.reduceEqDiff, Nat.reduceAdd, Nat.reduceLeDiff, Nat.reduceMul, Nat.reduceBEq, Nat.reduceBneDiff, Nat.reduceLT, Nat.reduceSub, decide_true, decide_false, and_self, true_and, and_true, false_and, and_false, not_true_eq_false, not_false_eq_true, false_implies, true_implies, implies_true, ge_iff_le, Bool.false_eq_true, List.cons_append, List.nil_append]
    have h2' := h2
    simp only [lenIs] at h2'
    simp +contextual -implicitDefEqProofs only [h1', hw, h2', gt_iff_lt, eS, List.length_map, bne, Bool.not_true, Bool.not_false, Bool.true_and, Bool.false_and, Bool.and_true, Bool.and_false, Bool.true_or, Bool.false_or, Bool.or_true, Bool.or_false, go_sem, eI, eB, ↓reduceIte, Nat.reduceEqDiff, Nat.reduceAdd, Nat.reduceLeDiff, Nat.reduceMul, Nat.reduceBEq, Nat.reduceBneDiff, Nat.reduceLT, Nat.reduceSub, decide_true, decide_false, and_self, true_and, and_true, false_and, and_false, not_true_eq_false, not_false_eq_true, false_implies, true_implies, implies_true, ge_iff_le, Bool.false_eq_true, List.cons_append, List.nil_append]
    refine vc_on (α := Nat) [4, 5, 32, 33, 34, 35, 36, 37, 38, 39, 40, 41, 42, 43, 44, 45, 46, 47, 48, 49, 50, 51, 52] (fun i => [(5, .im none (.sc (.int .i64 i)))]) (fun i => i ≤ v.1.2.length ∧ (v.1.2.take i).all ((fun x => isIn x 0 (atomsOf g - 1))) = true) (fun i => v.1.2.length - i) 0 (by simp only [subEnv, go_sem, ↓reduceIte, Nat.reduceEqDiff, List.length_map]; simp) ⟨Nat.zero_le _, rfl⟩ ?_
    rintro i ⟨j1, j2⟩
    by_cases hi : i < v.1.2.length
    · have e1 := at_map (f := eI) hi
      simp +contextual -implicitDefEqProofs only [eS, e1, hi, Int.ofNat_lt, List.length_map, Int.natCast_nonneg, go_sem, eI, eB, ↓reduceIte, Nat.reduceEqDiff, Nat.reduceAdd, Nat.reduceLeDiff, Nat.reduceMul, Nat.reduceBEq, Nat.reduceBneDiff, Nat.reduceLT, Nat.reduceSub, decide_true, decide_false, and_self, true_and, and_true, false_and, and_false, not_true_eq_false, not_false_eq_true, false_implies, true_implies, implies_true, ge_iff_le, Bool.false_eq_true, List.cons_append, List.nil_append]
      refine callQ_self ?_ (hc2 g hg) ?_
      · exact rfl
      simp +contextual -implicitDefEqProofs only [bne, Bool.not_true, Bool.not_false, Bool.true_and, Bool.false_and, Bool.and_true, Bool.and_false, Bool.true_or, Bool.false_or, Bool.or_true, Bool.or_false, go_sem, eI, eB, ↓reduceIte, Nat.reduceEqDiff, Nat.reduceAdd, Nat.reduceLeDiff, Nat.reduceMul, Nat.reduceBEq, Nat.reduceBneDiff, Nat.reduceLT, Nat.reduceSub, decide_true, decide_false, and_self, true_and, and_true, false_and, and_false, not_true_eq_false, not_false_eq_true, false_implies, true_implies, implies_true, ge_iff_le, Bool.false_eq_true, List.cons_append, List.nil_append]
      rw [wrap_i64 (by omega) (by omega)]
      refine callQ_self ?_ (hc3 v.1.2[i] 0 (atomsOf g - 1)) ?_
      · exact rfl
      cases hx : isIn v.1.2[i] 0 (atomsOf g - 1)
      · simp +contextual -implicitDefEqProofs only [bne, Bool.not_true, Bool.not_false, Bool.true_and, Bool.false_and, Bool.and_true, Bool.and_false, Bool.true_or, Bool.false_or, Bool.or_true, Bool.or_false, go_sem, eI, eB, ↓reduceIte, Nat.reduceEqDiff, Nat.reduceAdd, Nat.reduceLeDiff, Nat.reduceMul, Nat.reduceBEq, Nat.reduceBneDiff, Nat.reduceLT, Nat.reduceSub, decide_true, decide_false, and_self, true_and, and_true, false_and, and_false, not_true_eq_false, not_false_eq_true, false_implies, true_implies, implies_true, ge_iff_le, Bool.false_eq_true, List.cons_append, List.nil_append]
        have hr2 := all_fail (p := (fun x => isIn x 0 (atomsOf g - 1))) hi hx
        exact D.Le.sc_eq (by simp only [okWo, traceOk, allIn, h1, h2, hr2, Bool.and_false, Bool.false_and])
      · simp +contextual -implicitDefEqProofs only [bne, Bool.not_true, Bool.not_false, Bool.true_and, Bool.false_and, Bool.and_true, Bool.and_false, Bool.true_or, Bool.false_or, Bool.or_true, Bool.or_false, go_sem, eI, eB, ↓reduceIte, Nat.reduceEqDiff, Nat.reduceAdd, Nat.reduceLeDiff, Nat.reduceMul, Nat.reduceBEq, Nat.reduceBneDiff, Nat.reduceLT, Nat.reduceSub, decide_true, decide_false, and_self, true_and, and_true, false_and, and_false, not_true_eq_false, not_false_eq_true, false_implies, true_implies, implies_true, ge_iff_le, Bool.false_eq_true, List.cons_append, List.nil_append]
        rw [wrap_i64 (by omega) (by omega)]
        exact ⟨i + 1, ⟨by omega, all_take_succ hi j2 hx⟩, by omega, Ent.env (by simp only [subEnv, go_sem, ↓reduceIte, Nat.reduceEqDiff, List.length_map]; simp)⟩
    · simp +contextual -implicitDefEqProofs only [eS, hi, Int.ofNat_lt, List.length_map, Int.natCast_nonneg, go_sem, eI, eB, ↓reduceIte, Nat.reduceEqDiff, Nat.reduceAdd, Nat.reduceLeDiff, Nat.reduceMul, Nat.reduceBEq, Nat.reduceBneDiff, Nat.reduceLT, Nat.reduceSub, decide_true, decide_false, and_self, true_and, and_true, false_and, and_false, not_true_eq_false, not_false_eq_true, false_implies, true_implies, implies_true, ge_iff_le, Bool.false_eq_true, List.cons_append, List.nil_append]
      have hr1 := all_of_take hi j2
      refine vc_on (α := Nat) [4, 6, 53, 54, 55, 56, 57, 58, 59, 60, 61, 62, 63, 64, 65, 66, 67, 68, 69, 70, 71, 72, 73] (fun i => [(6, .im none (.sc (.int .i64 i)))]) (fun i => i ≤ v.2.2.length ∧ (v.2.2.take i).all ((fun x => isIn x 0 (g.2 - 1))) = true) (fun i => v.2.2.length - i) 0 (by simp only [subEnv, go_sem, ↓reduceIte, Nat.reduceEqDiff, List.length_map]; simp) ⟨Nat.zero_le _, rfl⟩ ?_
      rintro i ⟨j1, j2⟩
      by_cases hi : i < v.2.2.length
      · have e1 := at_map (f := eI) hi
        simp +contextual -implicitDefEqProofs only [eS, e1, hi, Int.ofNat_lt, List.length_map, Int.natCast_nonneg, go_sem, eI, eB, ↓reduceIte, Nat.reduceEqDiff, Nat.reduceAdd, Nat.reduceLeDiff, Nat.reduceMul, Nat.reduceBEq, Nat.reduceBneDiff, Nat.reduceLT, Nat.reduceSub, decide_true, decide_false, and_self, true_and, and_true, false_and, and_false, not_true_eq_false, not_false_eq_true, false_implies, true_implies, implies_true, ge_iff_le, Bool.false_eq_true, List.cons_append, List.nil_append]
        rw [wrap_i64 (by omega) (by omega)]
        refine callQ_self ?_ (hc3 v.2.2[i] 0 (g.2 - 1)) ?_
        · exact rfl
        cases hx : isIn v.2.2[i] 0 (g.2 - 1)
        · simp +contextual -implicitDefEqProofs only [bne, Bool.not_true, Bool.not_false, Bool.true_and, Bool.false_and, Bool.and_true, Bool.and_false, Bool.true_or, Bool.false_or, Bool.or_true, Bool.or_false, go_sem, eI, eB, ↓reduceIte, Nat.reduceEqDiff, Nat.reduceAdd, Nat.reduceLeDiff, Nat.reduceMul, Nat.reduceBEq, Nat.reduceBneDiff, Nat.reduceLT, Nat.reduceSub, decide_true, decide_false, and_self, true_and, and_true, false_and, and_false, not_true_eq_false, not_false_eq_true, false_implies, true_implies, implies_true, ge_iff_le, Bool.false_eq_true, List.cons_append, List.nil_append]
          have hr2 := all_fail (p := (fun x => isIn x 0 (g.2 - 1))) hi hx
          exact D.Le.sc_eq (by simp only [okWo, traceOk, allIn, h1, h2, hr2, Bool.and_false, Bool.false_and])
        · simp +contextual -implicitDefEqProofs only [bne, Bool.not_true, Bool.not_false, Bool.true_and, Bool.false_and, Bool.and_true, Bool.and_false, Bool.true_or, Bool.false_or, Bool.or_true, Bool.or_false, go_sem, eI, eB, ↓reduceIte, Nat.reduceEqDiff, Nat.reduceAdd, Nat.reduceLeDiff, Nat.reduceMul, Nat.reduceBEq, Nat.reduceBneDiff, Nat.reduceLT, Nat.reduceSub, decide_true, decide_false, and_self, true_and, and_true, false_and, and_false, not_true_eq_false, not_false_eq_true, false_implies, true_implies, implies_true, ge_iff_le, Bool.false_eq_true, List.cons_append, List.nil_append]
          rw [wrap_i64 (by omega) (by omega)]
          exact ⟨i + 1, ⟨by omega, all_take_succ hi j2 hx⟩, by omega, Ent.env (by simp only [subEnv, go_sem, ↓reduceIte, Nat.reduceEqDiff, List.length_map]; simp)⟩
      · simp +contextual -implicitDefEqProofs only [eS, hi, Int.ofNat_lt, List.length_map, Int.natCast_nonneg, go_sem, eI, eB, ↓reduceIte, Nat.reduceEqDiff, Nat.reduceAdd, Nat.reduceLeDiff, Nat.reduceMul, Nat.reduceBEq, Nat.reduceBneDiff, Nat.reduceLT, Nat.reduceSub, decide_true, decide_false, and_self, true_and, and_true, false_and, and_false, not_true_eq_false, not_false_eq_true, false_implies, true_implies, implies_true, ge_iff_le, Bool.false_eq_true, List.cons_append, List.nil_append]
        have hr2 := all_of_take hi j2
        exact D.Le.sc_eq (by simp only [okWo, traceOk, allIn, h1, h2, hr1, hr2, Bool.and_self, Bool.and_true, decide_true])
  · have h1' : (v.2.2.length : Int) > 10 := by omega
    simp +contextual -implicitDefEqProofs only [okWo, h1, h1', eS, List.length_map, bne, Bool.not_true, Bool.not_false, Bool.true_and, Bool.false_and, Bool.and_true, Bool.and_false, Bool.true_or, Bool.false_or, Bool.or_true, Bool.or_false, go_sem, eI, eB, ↓reduceIte, Nat.reduceEqDiff, Nat.reduceAdd, Nat.reduceLeDiff, Nat.reduceMul, Nat.reduceBEq, Nat.reduceBneDiff, Nat.reduceLT, Nat.reduceSub, decide_true, decide_false, and_self, true_and, and_true, false_and, and_false, not_true_eq_false, not_false_eq_true, false_implies, true_implies, implies_true, ge_iff_le, Bool.false_eq_true, List.cons_append, List.nil_append]
def wAt (w : Wd) (s : Int) : Int := w.1.2.getD s.toNat 0
def rowAt (w : Wd) (c : Int) : SL Int := w.2.2.getD c.toNat default
def wTo (w : Wd) (c s : Int) : Int := (rowAt w c).2.getD s.toNat 0
def fol (w : Wd) : List Int → List Int → Int → Option Int
  | c :: cs, a :: as, s => if wAt w s = a then (if wTo w c s < 0 then none else fol w cs as (wTo w c s)) else none
  | [], [a], s => if wAt w s = a then some s else none
  | _, _, _ => none
def folR (g : Int × Int) (w : Wd) (s : Int) (v : Wo) : Int × Int :=
  if okG g && okW g w && okWo g v then (if isIn s 0 (w.1.2.length - 1) then (match fol w v.2.2 v.1.2 s with | some t => (t, 0) | none => (0, 4)) else (0, 2)) else (0, 1)
theorem at_getD {α : Type} {f : α → D} {l : List α} {i : Nat} {d : α} (h : i < l.length) : D.at (l.map f) i = f (l.getD i d) := by
  simp [D.at, h]

theorem world_facts {g : Int × Int} {w : Wd} (h : okW g w = true) : (w.1.2.length : Int) ≤ 12 ∧ (w.2.2.length : Int) = g.2 ∧ ∀ c : Int, 0 ≤ c → c < g.2 → c.toNat < w.2.2.length ∧ ((rowAt w c).2.length : Int) = w.1.2.length ∧ ∀ s : Int, 0 ≤ s → s < w.1.2.length → -1 ≤ wTo w c s ∧ wTo w c s < w.1.2.length := by
  simp only [okW, Bool.and_eq_true, isIn, decide_eq_true_eq, lenIs, beq_iff_eq, List.all_eq_true] at h
  obtain ⟨h1, _, h3, h4⟩ := h
  refine ⟨h1.2, h3, fun c c1 c2 => ?_⟩
  have hc : c.toNat < w.2.2.length := by omega
  have hr := h4 _ (List.getElem_mem hc)
  have er : rowAt w c = w.2.2[c.toNat] := by simp [rowAt, hc]
  rw [er]
  simp only [rowOk, lenIs, Bool.and_eq_true, beq_iff_eq, allIn, List.all_eq_true, isIn, decide_eq_true_eq] at hr
  refine ⟨hc, hr.1, fun s s1 s2 => ?_⟩
  have hs : s.toNat < w.2.2[c.toNat].2.length := by omega
  have := hr.2 _ (List.getElem_mem hs)
  have et : wTo w c s = w.2.2[c.toNat].2[s.toNat] := by simp [wTo, er, hs]
  rw [et]
  omega
theorem word_facts {g : Int × Int} {v : Wo} (h : okWo g v = true) : v.2.2.length ≤ 10 ∧ v.1.2.length = v.2.2.length + 1 ∧ ∀ (i : Nat) (hi : i < v.2.2.length), 0 ≤ v.2.2[i] ∧ v.2.2[i] < g.2 := by
  simp only [okWo, traceOk, Bool.and_eq_true, decide_eq_true_eq, lenIs, beq_iff_eq, allIn, List.all_eq_true, isIn] at h
  refine ⟨by omega, by omega, fun i hi => ?_⟩
  have := h.2.2.2 _ (List.getElem_mem hi)
  omega
theorem fol_step {w : Wd} {cs as : List Int} {s : Int} {i : Nat} (h1 : i < cs.length) (h2 : i < as.length) : fol w (cs.drop i) (as.drop i) s =
    if wAt w s = as[i] then (if wTo w cs[i] s < 0 then none else fol w (cs.drop (i + 1)) (as.drop (i + 1)) (wTo w cs[i] s)) else none := by
  rw [List.drop_eq_getElem_cons h1, List.drop_eq_getElem_cons h2, fol]
theorem fol_end {w : Wd} {cs as : List Int} {s : Int} {i : Nat} (h1 : i = cs.length) (h2 : as.length = i + 1) : fol w (cs.drop i) (as.drop i) s = if wAt w s = as[i] then some s else none := by
  rw [List.drop_eq_nil_of_le (show cs.length ≤ i by omega), List.drop_eq_getElem_cons (show i < as.length by omega), List.drop_eq_nil_of_le (show as.length ≤ i + 1 by omega), fol]

def k_spFollow (f1 f2 f3 : Nat) : RC :=
 (.seq
  (.reg false [⟨none, .box 4 2 (.t 0)⟩,
    ⟨none, .box 5 2 (.t 1)⟩,
    ⟨none, .box 7 2 (.t 3)⟩,
    ⟨none, .mv 8 (.c (.sc (.int .i64 0)))⟩,
    ⟨none, .mv 9 (.c (.sc (.int .i64 0)))⟩])
  ((.seq
   ((.seq
    (.reg false [⟨none, .ld 11 true 2 (.t 4)⟩,
      ⟨none, .call (some 12) f1 [(.t 11), (.t 5)]⟩,
      ⟨none, .un 13 .not (.t 12)⟩,
      ⟨none, .mv 14 (.t 13)⟩,
      ⟨some (14, false), .ld 15 true 2 (.t 4)⟩,
      ⟨some (14, false), .call (some 16) f2 [(.t 15), (.t 7)]⟩,
      ⟨some (14, false), .un 17 .not (.t 16)⟩,
      ⟨none, .pick 18 (.t 14) (.c (.sc (.bool true))) (.t 17)⟩])
    (.cond (.t 18)
     ((.seq
      (.reg false [⟨none, .mv 8 (.c (.sc (.int .i64 0)))⟩,
        ⟨none, .mv 9 (.c (.sc (.int .i64 1)))⟩])
      (.ret)))
     (.skip))))
   ((.seq
    ((.seq
     (.reg false [⟨none, .mv 19 (.t 2)⟩,
       ⟨none, .fa 20 0 (.t 5)⟩,
       ⟨none, .ld 21 false 1 (.t 20)⟩,
       ⟨none, .len 22 (.t 21)⟩,
       ⟨none, .bin 23 .sub (.t 22) (.c (.sc (.int .i64 1)))⟩,
       ⟨none, .call (some 24) f3 [(.t 19), (.c (.sc (.int .i64 0))), (.t 23)]⟩,
       ⟨none, .un 25 .not (.t 24)⟩])
     (.cond (.t 25)
      ((.seq
       (.reg false [⟨none, .mv 8 (.c (.sc (.int .i64 0)))⟩,
         ⟨none, .mv 9 (.c (.sc (.int .i64 2)))⟩])
       (.ret)))
      (.skip))))
    ((.seq
     ((.seq
      (.reg false [⟨none, .mv 10 (.c (.sc (.int .i64 0)))⟩])
      (.blk 0
       (.loop
        ((.seq
         ((.seq
          (.reg false [⟨none, .mv 26 (.t 10)⟩,
            ⟨none, .fa 27 1 (.t 7)⟩,
            ⟨none, .ld 28 false 1 (.t 27)⟩,
            ⟨none, .len 29 (.t 28)⟩,
            ⟨none, .bin 30 .lss (.t 26) (.t 29)⟩])
          (.cond (.t 30)
           (.skip)
           (.exit 0))))
         ((.seq
          (.blk 1
           ((.seq
            ((.seq
             (.reg true [⟨none, .fa 33 0 (.t 5)⟩,
               ⟨none, .ld 34 false 1 (.t 33)⟩,
               ⟨none, .mv 35 (.t 2)⟩,
               ⟨none, .ia 36 1 (.t 34) (.t 35)⟩,
               ⟨none, .ld 37 false 1 (.t 36)⟩,
               ⟨none, .fa 38 0 (.t 7)⟩,
               ⟨none, .ld 39 false 1 (.t 38)⟩,
               ⟨none, .mv 40 (.t 10)⟩,
               ⟨none, .ia 41 1 (.t 39) (.t 40)⟩,
               ⟨none, .ld 42 false 1 (.t 41)⟩,
               ⟨none, .bin 43 .neq (.t 37) (.t 42)⟩,
               ⟨none, .mv 44 (.t 43)⟩,
               ⟨some (44, false), .fa 45 1 (.t 5)⟩,
               ⟨some (44, false), .ld 46 false 1 (.t 45)⟩,
               ⟨some (44, false), .fa 47 1 (.t 7)⟩,
               ⟨some (44, false), .ld 48 false 1 (.t 47)⟩,
               ⟨some (44, false), .mv 49 (.t 10)⟩,
               ⟨some (44, false), .ia 50 1 (.t 48) (.t 49)⟩,
               ⟨some (44, false), .ld 51 false 1 (.t 50)⟩,
               ⟨some (44, false), .ia 52 1 (.t 46) (.t 51)⟩,
               ⟨some (44, false), .ld 53 false 1 (.t 52)⟩,
               ⟨some (44, false), .mv 54 (.t 2)⟩,
               ⟨some (44, false), .ia 55 1 (.t 53) (.t 54)⟩,
               ⟨some (44, false), .ld 56 false 1 (.t 55)⟩,
               ⟨some (44, false), .bin 57 .lss (.t 56) (.c (.sc (.int .i64 0)))⟩,
               ⟨none, .pick 58 (.t 44) (.c (.sc (.bool true))) (.t 57)⟩])
             (.cond (.t 58)
              ((.seq
               (.reg false [⟨none, .mv 8 (.c (.sc (.int .i64 0)))⟩,
                 ⟨none, .mv 9 (.c (.sc (.int .i64 4)))⟩])
               (.ret)))
              (.skip))))
            (.reg true [⟨none, .fa 59 1 (.t 5)⟩,
              ⟨none, .ld 60 false 1 (.t 59)⟩,
              ⟨none, .fa 61 1 (.t 7)⟩,
              ⟨none, .ld 62 false 1 (.t 61)⟩,
              ⟨none, .mv 63 (.t 10)⟩,
              ⟨none, .ia 64 1 (.t 62) (.t 63)⟩,
              ⟨none, .ld 65 false 1 (.t 64)⟩,
              ⟨none, .ia 66 1 (.t 60) (.t 65)⟩,
              ⟨none, .ld 67 false 1 (.t 66)⟩,
              ⟨none, .mv 68 (.t 2)⟩,
              ⟨none, .ia 69 1 (.t 67) (.t 68)⟩,
              ⟨none, .ld 70 false 1 (.t 69)⟩,
              ⟨none, .mv 2 (.t 70)⟩]))))
          (.reg false [⟨none, .mv 31 (.t 10)⟩,
            ⟨none, .bin 32 .add (.t 31) (.c (.sc (.int .i64 1)))⟩,
            ⟨none, .mv 10 (.t 32)⟩])))))))))
     ((.seq
      ((.seq
       (.reg true [⟨none, .fa 71 0 (.t 5)⟩,
         ⟨none, .ld 72 false 1 (.t 71)⟩,
         ⟨none, .mv 73 (.t 2)⟩,
         ⟨none, .ia 74 1 (.t 72) (.t 73)⟩,
         ⟨none, .ld 75 false 1 (.t 74)⟩,
         ⟨none, .fa 76 0 (.t 7)⟩,
         ⟨none, .ld 77 false 1 (.t 76)⟩,
         ⟨none, .fa 78 1 (.t 7)⟩,
         ⟨none, .ld 79 false 1 (.t 78)⟩,
         ⟨none, .len 80 (.t 79)⟩,
         ⟨none, .ia 81 1 (.t 77) (.t 80)⟩,
         ⟨none, .ld 82 false 1 (.t 81)⟩,
         ⟨none, .bin 83 .neq (.t 75) (.t 82)⟩])
       (.cond (.t 83)
        ((.seq
         (.reg false [⟨none, .mv 8 (.c (.sc (.int .i64 0)))⟩,
           ⟨none, .mv 9 (.c (.sc (.int .i64 4)))⟩])
         (.ret)))
        (.skip))))
      ((.seq
       (.reg false [⟨none, .mv 84 (.t 2)⟩,
         ⟨none, .mv 8 (.t 84)⟩,
         ⟨none, .mv 9 (.c (.sc (.int .i64 0)))⟩])
       (.ret))))))))))))
def K_spFollow (P : Program) (f : Nat) : Prop := ∀ (g : Int × Int) (w : Wd) (s0 : Int) (v : Wo), AF P f [eG g, eW w, eI s0, eWo v] (.tup ([.own (eI (folR g w s0 v).1), .own (eI (folR g w s0 v).2)]))
theorem a_spFollow {P : Program} (hm : P.follows .mixedOrders = true) {g f1 f2 f3 : Nat} (hr : resF P g = some (85, k_spFollow f1 f2 f3, [.t 8, .t 9])) (hc1 : K_l06World P f1) (hc2 : K_l01Word P f2) (hc3 : K_l00In P f3) : K_spFollow P g := by
  intro g w s0 v
  refine af_of_res hr hm rfl fun hb => ?_
  have hb2 := hb.2.1
  simp +contextual -implicitDefEqProofs only [k_spFollow, eG, eW, eWo, eS, List.length_map, go_sem, eI, eB, ↓reduceIte, Nat.reduceEqDiff, Nat.reduceAdd, Nat.reduceLeDiff, Nat.reduceMul, Nat.reduceBEq, Nat.reduceBneDiff, Nat.reduceLT, Nat.reduceSub, decide_true, decide_false, and_self, true_and, and_true, false_and, and_false, not_true_eq_false, not_false_eq_true, false_implies, true_implies, implies_true, ge_iff_le, Bool.false_eq_true, List.cons_append, List.nil_append]
  refine callQ_self ?_ (hc1 g w) ?_
  · exact rfl
  cases hg : okG g
  · simp +contextual -implicitDefEqProofs only [folR, hg, bne, Bool.not_true, Bool.not_false, Bool.true_and, Bool.false_and, Bool.and_true, Bool.and_false, Bool.true_or, Bool.false_or, Bool.or_true, Bool.or_false, go_sem, eI, eB, ↓reduceIte, Nat.reduceEqDiff, Nat.reduceAdd, Nat.reduceLeDiff, Nat.reduceMul, Nat.reduceBEq, Nat.reduceBneDiff, Nat.reduceLT, Nat.reduceSub, decide_true, decide_false, and_self, true_and, and_true, false_and, and_false, not_true_eq_false, not_false_eq_true, false_implies, true_implies, implies_true, ge_iff_le, Bool.false_eq_true, List.cons_append, List.nil_append]
  cases hw : okW g w
  · simp +contextual -implicitDefEqProofs only [folR, hg, hw, bne, Bool.not_true, Bool.not_false, Bool.true_and, Bool.false_and, Bool.and_true, Bool.and_false, Bool.true_or, Bool.false_or, Bool.or_true, Bool.or_false, go_sem, eI, eB, ↓reduceIte, Nat.reduceEqDiff, Nat.reduceAdd, Nat.reduceLeDiff, Nat.reduceMul, Nat.reduceBEq, Nat.reduceBneDiff, Nat.reduceLT, Nat.reduceSub, decide_true, decide_false, and_self, true_and, and_true, false_and, and_false, not_true_eq_false, not_false_eq_true, false_implies, true_implies, implies_true, ge_iff_le, Bool.false_eq_true, List.cons_append, List.nil_append]
  simp +contextual -implicitDefEqProofs only [hg, hw, eS, List.length_map, bne, Bool.not_true, Bool.not_false, Bool.true_and, Bool.false_and, Bool.and_true, Bool.and_false, Bool.true_or, Bool.false_or, Bool.or_true, Bool.or_false, go_sem, eI, eB, ↓reduceIte, Nat.reduceEqDiff, Nat.reduceAdd, Nat.reduceLeDiff, Nat.reduceMul, Nat.reduceBEq, Nat.reduceBneDiff, Nat.reduceLT, Nat.reduceSub, decide_true, decide_false, and_self, true_and, and_true, false_and, and_false, not_true_eq_false, not_false_eq_true, false_implies, true_implies, implies_true, ge_iff_le, Bool.false_eq_true, List.cons_append, List.nil_append]
  refine callQ_self ?_ (hc2 g v) ?_
  · exact rfl
  cases hv : okWo g v
  · simp +contextual -implicitDefEqProofs only [folR, hg, hw, hv, bne, Bool.not_true, Bool.not_false, Bool.true_and, Bool.false_and, Bool.and_true, Bool.and_false, Bool.true_or, Bool.false_or, Bool.or_true, Bool.or_false, go_sem, eI, eB, ↓reduceIte, Nat.reduceEqDiff, Nat.reduceAdd, Nat.reduceLeDiff, Nat.reduceMul, Nat.reduceBEq, Nat.reduceBneDiff, Nat.reduceLT, Nat.reduceSub, decide_true, decide_false, and_self, true_and, and_true, false_and, and_false, not_true_eq_false, not_false_eq_true, false_implies, true_implies, implies_true, ge_iff_le, Bool.false_eq_true, List.cons_append, List.nil_append]
  simp +contextual -implicitDefEqProofs only [hg, hv, eS, List.length_map, bne, Bool.not_true, Bool.not_false, Bool.true_and, Bool.false_and, Bool.and_true, Bool.and_false, Bool.true_or, Bool.false_or, Bool.or_true, Bool.or_false, go_sem, eI, eB, ↓reduceIte, Nat.reduceEqDiff, Nat.reduceAdd, Nat.reduceLeDiff, Nat.reduceMul, Nat.reduceBEq, Nat.reduceBneDiff, Nat.reduceLT, Nat.reduceSub, decide_true, decide_false, and_self, true_and, and_true, false_and, and_false, not_true_eq_false, not_false_eq_true, false_implies, true_implies, implies_true, ge_iff_le, Bool.false_eq_true, List.cons_append, List.nil_append]
  obtain ⟨w1, w2, w3⟩ := world_facts hw
  obtain ⟨v1, v2, v3⟩ := word_facts hv
  rw [wrap_i64 (by omega) (by omega)]
  refine callQ_self ?_ (hc3 s0 0 (w.1.2.length - 1)) ?_
  · exact rfl
  cases hs0 : isIn s0 0 (w.1.2.length - 1)
  · simp +contextual -implicitDefEqProofs only [folR, hg, hw, hv, hs0, eS, List.length_map, bne, Bool.not_true, Bool.not_false, Bool.true_and, Bool.false_and, Bool.and_true, Bool.and_false, Bool.true_or, Bool.false_or, Bool.or_true, Bool.or_false, go_sem, eI, eB, ↓reduceIte, Nat.reduceEqDiff, Nat.reduceAdd, Nat.reduceLeDiff, Nat.reduceMul, Nat.reduceBEq, Nat.reduceBneDiff, Nat.reduceLT, Nat.reduceSub, decide_true, decide_false, and_self, true_and, and_true, false_and, and_false, not_true_eq_false, not_false_eq_true, false_implies, true_implies, implies_true, ge_iff_le, Bool.false_eq_true, List.cons_append, List.nil_append]
  have hs0' : 0 ≤ s0 ∧ s0 ≤ w.1.2.length - 1 := by simpa [isIn] using hs0
  have er : folR g w s0 v = (match fol w v.2.2 v.1.2 s0 with | some t => (t, 0) | none => (0, 4)) := by simp [folR, hg, hw, hv, hs0]
  rw [er]
  simp +contextual -implicitDefEqProofs only [hs0, eS, List.length_map, bne, Bool.not_true, Bool.not_false, Bool.true_and, Bool.false_and, Bool.and_true, Bool.and_false, Bool.true_or, Bool.false_or, Bool.or_true, Bool.or_false, go_sem, eI, eB, ↓reduceIte, Nat.reduceEqDiff, Nat.reduceAdd, Nat.reduceLeDiff, Nat.reduceMul, Nat.reduceBEq, Nat.reduceBneDiff, Nat.reduceLT, Nat.reduceSub, decide_true, decide_false, and_self, true_and, and_true, false_and, and_false, not_true_eq_false, not_false_eq_true, false_implies, true_implies, implies_true, ge_iff_le, Bool.false_eq_true, List.cons_append, List.nil_append]
  refine vc_on (α := Nat × Int) [2, 8, 9, 10, 26, 27, 28, 29, 30, 31, 32, 33, 34, 35, 36, 37, 38, 39, 40, 41, 42, 43, 44, 45, 46, 47, 48, 49, 50, 51, 52, 53, 54, 55, 56, 57, 58, 59, 60, 61, 62, 63, 64, 65, 66, 67, 68, 69, 70] (fun x => [(10, .im none (.sc (.int .i64 x.1))), (2, .im none (.sc (.int .i64 x.2)))]) (fun x => x.1 ≤ v.2.2.length ∧ 0 ≤ x.2 ∧ x.2 < w.1.2.length ∧ fol w (v.2.2.drop x.1) (v.1.2.drop x.1) x.2 = fol w v.2.2 v.1.2 s0) (fun x => v.2.2.length - x.1) (0, s0) (by simp only [subEnv, go_sem, ↓reduceIte, Nat.reduceEqDiff, List.length_map]; simp) ⟨Nat.zero_le _, by omega, by omega, rfl⟩ ?_
  rintro ⟨i, s⟩ j
  simp only at j
  obtain ⟨j1, s1, s2, j4⟩ := j
  have hs : s.toNat < w.1.2.length := by omega
  have e1 : D.at (w.1.2.map eI) s.toNat = eI (wAt w s) := at_getD hs
  by_cases hi : i < v.2.2.length
  · have hia : i < v.1.2.length := by omega
    have hc := v3 i hi
    obtain ⟨c1, c2, c3⟩ := w3 v.2.2[i] hc.1 hc.2
    have c4 := c3 s s1 s2
    have e2 := at_map (f := eI) hi
    have e4 : D.at (w.2.2.map (eS 1 eI)) (v.2.2[i]).toNat = eS 1 eI (rowAt w v.2.2[i]) := at_getD c1
    have hsr : s.toNat < (rowAt w v.2.2[i]).2.length := by omega
    have e5 : D.at ((rowAt w v.2.2[i]).2.map eI) s.toNat = eI (wTo w v.2.2[i] s) := at_getD hsr
    have d1 : v.2.2[i] < (w.2.2.length : Int) := by omega
    have d2 : s < ((rowAt w v.2.2[i]).2.length : Int) := by omega
    have e3 := at_map (f := eI) hia
    have hf := fol_step (w := w) (s := s) hi hia
    cases hA : (wAt w s == v.1.2[i])
    · simp +contextual -implicitDefEqProofs only [e1, e2, e3, e4, e5, d1, d2, hc.1, s1, s2, hi, hia, Int.ofNat_lt, List.length_map, Int.natCast_nonneg, eS, hA, bne, Bool.not_true, Bool.not_false, Bool.true_and, Bool.false_and, Bool.and_true, Bool.and_false, Bool.true_or, Bool.false_or, Bool.or_true, Bool.or_false, go_sem, eI, eB, ↓reduceIte, Nat.reduceEqDiff, Nat.reduceAdd, Nat.reduceLeDiff, Nat.reduceMul, Nat.reduceBEq, Nat.reduceBneDiff, Nat.reduceLT, Nat.reduceSub, decide_true, decide_false, and_self, true_and, and_true, false_and, and_false, not_true_eq_false, not_false_eq_true, false_implies, true_implies, implies_true, ge_iff_le, Bool.false_eq_true, List.cons_append, List.nil_append]
      have hA' : ¬ wAt w s = v.1.2[i] := by simpa using hA
      rw [if_neg hA'] at hf
      exact ⟨D.Le.sc_eq (by rw [← j4, hf]), D.Le.sc_eq (by rw [← j4, hf])⟩
    have hA' : wAt w s = v.1.2[i] := by simpa using hA
    rw [if_pos hA'] at hf
    by_cases hT : wTo w v.2.2[i] s < 0
    · simp +contextual -implicitDefEqProofs only [e1, e2, e3, e4, e5, d1, d2, hc.1, s1, s2, hi, hia, Int.ofNat_lt, List.length_map, Int.natCast_nonneg, eS, hA, hT, bne, Bool.not_true, Bool.not_false, Bool.true_and, Bool.false_and, Bool.and_true, Bool.and_false, Bool.true_or, Bool.false_or, Bool.or_true, Bool.or_false, go_sem, eI, eB, ↓reduceIte, Nat.reduceEqDiff, Nat.reduceAdd, Nat.reduceLeDiff, Nat.reduceMul, Nat.reduceBEq, Nat.reduceBneDiff, Nat.reduceLT, Nat.reduceSub, decide_true, decide_false, and_self, true_and, and_true, false_and, and_false, not_true_eq_false, not_false_eq_true, false_implies, true_implies, implies_true, ge_iff_le, Bool.false_eq_true, List.cons_append, List.nil_append]
      rw [if_pos hT] at hf
      exact ⟨D.Le.sc_eq (by rw [← j4, hf]), D.Le.sc_eq (by rw [← j4, hf])⟩
    · simp +contextual -implicitDefEqProofs only [e1, e2, e3, e4, e5, d1, d2, hc.1, s1, s2, hi, hia, Int.ofNat_lt, List.length_map, Int.natCast_nonneg, eS, hA, hT, bne, Bool.not_true, Bool.not_false, Bool.true_and, Bool.false_and, Bool.and_true, Bool.and_false, Bool.true_or, Bool.false_or, Bool.or_true, Bool.or_false, go_sem, eI, eB, ↓reduceIte, Nat.reduceEqDiff, Nat.reduceAdd, Nat.reduceLeDiff, Nat.reduceMul, Nat.reduceBEq, Nat.reduceBneDiff, Nat.reduceLT, Nat.reduceSub, decide_true, decide_false, and_self, true_and, and_true, false_and, and_false, not_true_eq_false, not_false_eq_true, false_implies, true_implies, implies_true, ge_iff_le, Bool.false_eq_true, List.cons_append, List.nil_append]
      rw [if_neg hT] at hf
      rw [wrap_i64 (by omega) (by omega)]
      exact ⟨(i + 1, wTo w v.2.2[i] s), ⟨by simp only; omega, by simp only; omega, by simp only; omega, by simp only; rw [← hf, j4]⟩, by simp only; omega, Ent.env (by simp only [subEnv, go_sem, ↓reduceIte, Nat.reduceEqDiff, List.length_map]; simp)⟩
  · have hf := fol_end (w := w) (s := s) (cs := v.2.2) (as := v.1.2) (i := i) (by omega) (by omega)
    have hia : v.2.2.length < v.1.2.length := by omega
    have e3 := at_map (f := eI) hia
    have hil : i = v.2.2.length := by omega
    subst hil
    cases hA : (wAt w s == v.1.2[v.2.2.length])
    · simp +contextual -implicitDefEqProofs only [e1, e3, s1, s2, hi, hia, Int.ofNat_lt, List.length_map, Int.natCast_nonneg, eS, hA, bne, Bool.not_true, Bool.not_false, Bool.true_and, Bool.false_and, Bool.and_true, Bool.and_false, Bool.true_or, Bool.false_or, Bool.or_true, Bool.or_false, go_sem, eI, eB, ↓reduceIte, Nat.reduceEqDiff, Nat.reduceAdd, Nat.reduceLeDiff, Nat.reduceMul, Nat.reduceBEq, Nat.reduceBneDiff, Nat.reduceLT, Nat.reduceSub, decide_true, decide_false, and_self, true_and, and_true, false_and, and_false, not_true_eq_false, not_false_eq_true, false_implies, true_implies, implies_true, ge_iff_le, Bool.false_eq_true, List.cons_append, List.nil_append]
      have hA' : ¬ wAt w s = v.1.2[v.2.2.length] := by simpa using hA
      rw [if_neg hA'] at hf
      exact ⟨D.Le.sc_eq (by rw [← j4, hf]), D.Le.sc_eq (by rw [← j4, hf])⟩
    have hA' : wAt w s = v.1.2[v.2.2.length] := by simpa using hA
    rw [if_pos hA'] at hf
    simp +contextual -implicitDefEqProofs only [e1, e3, s1, s2, hi, hia, Int.ofNat_lt, List.length_map, Int.natCast_nonneg, eS, hA, bne, Bool.not_true, Bool.not_false, Bool.true_and, Bool.false_and, Bool.and_true, Bool.and_false, Bool.true_or, Bool.false_or, Bool.or_true, Bool.or_false, go_sem, eI, eB, ↓reduceIte, Nat.reduceEqDiff, Nat.reduceAdd, Nat.reduceLeDiff, Nat.reduceMul, Nat.reduceBEq, Nat.reduceBneDiff, Nat.reduceLT, Nat.reduceSub, decide_true, decide_false, and_self, true_and, and_true, false_and, and_false, not_true_eq_false, not_false_eq_true, false_implies, true_implies, implies_true, ge_iff_le, Bool.false_eq_true, List.cons_append, List.nil_append]
    exact ⟨D.Le.sc_eq (by rw [← j4, hf]), D.Le.sc_eq (by rw [← j4, hf])⟩

def k_imFollow (f1 f2 f3 : Nat) : RC :=
 (.seq
  (.reg false [⟨none, .box 4 2 (.t 0)⟩,
    ⟨none, .box 5 2 (.t 1)⟩,
    ⟨none, .box 7 2 (.t 3)⟩,
    ⟨none, .mv 8 (.c (.sc (.int .i64 0)))⟩,
    ⟨none, .mv 9 (.c (.sc (.int .i64 0)))⟩])
  ((.seq
   ((.seq
    (.reg false [⟨none, .ld 12 true 2 (.t 4)⟩,
      ⟨none, .ld 13 true 2 (.t 5)⟩,
      ⟨none, .call (some 14) f1 [(.t 12), (.t 13)]⟩,
      ⟨none, .un 15 .not (.t 14)⟩,
      ⟨none, .mv 16 (.t 15)⟩,
      ⟨some (16, false), .ld 17 true 2 (.t 4)⟩,
      ⟨some (16, false), .ld 18 true 2 (.t 7)⟩,
      ⟨some (16, false), .call (some 19) f2 [(.t 17), (.t 18)]⟩,
      ⟨some (16, false), .un 20 .not (.t 19)⟩,
      ⟨none, .pick 21 (.t 16) (.c (.sc (.bool true))) (.t 20)⟩])
    (.cond (.t 21)
     ((.seq
      (.reg false [⟨none, .mv 8 (.c (.sc (.int .i64 0)))⟩,
        ⟨none, .mv 9 (.c (.sc (.int .i64 1)))⟩])
      (.ret)))
     (.skip))))
   ((.seq
    ((.seq
     (.reg false [⟨none, .mv 22 (.t 2)⟩,
       ⟨none, .fa 23 0 (.t 5)⟩,
       ⟨none, .ld 24 false 1 (.t 23)⟩,
       ⟨none, .len 25 (.t 24)⟩,
       ⟨none, .bin 26 .sub (.t 25) (.c (.sc (.int .i64 1)))⟩,
       ⟨none, .call (some 27) f3 [(.t 22), (.c (.sc (.int .i64 0))), (.t 26)]⟩,
       ⟨none, .un 28 .not (.t 27)⟩])
     (.cond (.t 28)
      ((.seq
       (.reg false [⟨none, .mv 8 (.c (.sc (.int .i64 0)))⟩,
         ⟨none, .mv 9 (.c (.sc (.int .i64 2)))⟩])
       (.ret)))
      (.skip))))
    ((.seq
     ((.seq
      (.reg false [⟨none, .fa 29 0 (.t 7)⟩,
        ⟨none, .ld 30 false 1 (.t 29)⟩,
        ⟨none, .len 31 (.t 30)⟩,
        ⟨none, .mv 32 (.c (.sc (.int .i64 0)))⟩])
      (.blk 0
       (.loop
        ((.seq
         (.reg false [⟨none, .bin 33 .lss (.t 32) (.t 31)⟩])
         ((.seq
          (.cond (.t 33)
           (.skip)
           (.exit 0))
          ((.seq
           (.blk 1
            ((.seq
             (.reg false [⟨none, .mv 34 (.t 32)⟩,
               ⟨none, .ia 35 1 (.t 30) (.t 32)⟩,
               ⟨none, .ld 36 false 1 (.t 35)⟩,
               ⟨none, .mv 10 (.t 34)⟩,
               ⟨none, .mv 11 (.t 36)⟩])
             ((.seq
              ((.seq
               (.reg false [⟨none, .fa 37 0 (.t 5)⟩,
                 ⟨none, .ld 38 false 1 (.t 37)⟩,
                 ⟨none, .mv 39 (.t 2)⟩,
                 ⟨none, .ia 40 1 (.t 38) (.t 39)⟩,
                 ⟨none, .ld 41 false 1 (.t 40)⟩,
                 ⟨none, .mv 42 (.t 11)⟩,
                 ⟨none, .bin 43 .neq (.t 41) (.t 42)⟩])
               (.cond (.t 43)
                ((.seq
                 (.reg false [⟨none, .mv 8 (.c (.sc (.int .i64 0)))⟩,
                   ⟨none, .mv 9 (.c (.sc (.int .i64 4)))⟩])
                 (.ret)))
                (.skip))))
              ((.seq
               (.reg false [⟨none, .mv 44 (.t 10)⟩,
                 ⟨none, .fa 45 1 (.t 7)⟩,
                 ⟨none, .ld 46 false 1 (.t 45)⟩,
                 ⟨none, .len 47 (.t 46)⟩,
                 ⟨none, .bin 48 .lss (.t 44) (.t 47)⟩])
               (.cond (.t 48)
                ((.seq
                 (.reg true [⟨none, .fa 49 1 (.t 5)⟩,
                   ⟨none, .ld 50 false 1 (.t 49)⟩,
                   ⟨none, .fa 51 1 (.t 7)⟩,
                   ⟨none, .ld 52 false 1 (.t 51)⟩,
                   ⟨none, .mv 53 (.t 10)⟩,
                   ⟨none, .ia 54 1 (.t 52) (.t 53)⟩,
                   ⟨none, .ld 55 false 1 (.t 54)⟩,
                   ⟨none, .ia 56 1 (.t 50) (.t 55)⟩,
                   ⟨none, .ld 57 false 1 (.t 56)⟩,
                   ⟨none, .mv 58 (.t 2)⟩,
                   ⟨none, .ia 59 1 (.t 57) (.t 58)⟩,
                   ⟨none, .ld 60 false 1 (.t 59)⟩,
                   ⟨none, .mv 2 (.t 60)⟩])
                 ((.seq
                  (.reg false [⟨none, .mv 61 (.t 2)⟩,
                    ⟨none, .bin 62 .lss (.t 61) (.c (.sc (.int .i64 0)))⟩])
                  (.cond (.t 62)
                   ((.seq
                    (.reg false [⟨none, .mv 8 (.c (.sc (.int .i64 0)))⟩,
                      ⟨none, .mv 9 (.c (.sc (.int .i64 4)))⟩])
                    (.ret)))
                   (.skip))))))
                (.skip)))))))))
           (.reg false [⟨none, .bin 63 .add (.t 32) (.c (.sc (.int .i64 1)))⟩,
             ⟨none, .mv 32 (.t 63)⟩])))))))))))
     ((.seq
      (.reg false [⟨none, .mv 64 (.t 2)⟩,
        ⟨none, .mv 8 (.t 64)⟩,
        ⟨none, .mv 9 (.c (.sc (.int .i64 0)))⟩])
      (.ret))))))))))
def K_imFollow (P : Program) (f : Nat) : Prop := ∀ (g : Int × Int) (w : Wd) (s0 : Int) (v : Wo), AF P f [eG g, eW w, eI s0, eWo v] (.tup ([.own (eI (folR g w s0 v).1), .own (eI (folR g w s0 v).2)]))
theorem a_imFollow {P : Program} (hm : P.follows .mixedOrders = true) {g f1 f2 f3 : Nat} (hr : resF P g = some (65, k_imFollow f1 f2 f3, [.t 8, .t 9])) (hc1 : K_validWorld P f1) (hc2 : K_isWord P f2) (hc3 : K_within P f3) : K_imFollow P g := by
  intro g w s0 v
  refine af_of_res hr hm rfl fun hb => ?_
  simp +contextual -implicitDefEqProofs only [k_imFollow, eG, eW, eWo, eS, List.length_map, go_sem, eI, eB, ↓reduceIte, Nat.reduceEqDiff, Nat.reduceAdd, Nat.reduceLeDiff, Nat.reduceMul, Nat.reduceBEq, Nat.reduceBneDiff, Nat.reduceLT, Nat.reduceSub, decide_true, decide_false, and_self, true_and, and_true, false_and, and_false, not_true_eq_false, not_false_eq_true, false_implies, true_implies, implies_true, ge_iff_le, Bool.false_eq_true, List.cons_append, List.nil_append]
  refine callQ_self ?_ (hc1 g w) ?_
  · exact rfl
  cases hg : okG g
  · simp +contextual -implicitDefEqProofs only [folR, hg, bne, Bool.not_true, Bool.not_false, Bool.true_and, Bool.false_and, Bool.and_true, Bool.and_false, Bool.true_or, Bool.false_or, Bool.or_true, Bool.or_false, go_sem, eI, eB, ↓reduceIte, Nat.reduceEqDiff, Nat.reduceAdd, Nat.reduceLeDiff, Nat.reduceMul, Nat.reduceBEq, Nat.reduceBneDiff, Nat.reduceLT, Nat.reduceSub, decide_true, decide_false, and_self, true_and, and_true, false_and, and_false, not_true_eq_false, not_false_eq_true, false_implies, true_implies, implies_true, ge_iff_le, Bool.false_eq_true, List.cons_append, List.nil_append]
  cases hw : okW g w
  · simp +contextual -implicitDefEqProofs only [folR, hg, hw, bne, Bool.not_true, Bool.not_false, Bool.true_and, Bool.false_and, Bool.and_true, Bool.and_false, Bool.true_or, Bool.false_or, Bool.or_true, Bool.or_false, go_sem, eI, eB, ↓reduceIte, Nat.reduceEqDiff, Nat.reduceAdd, Nat.reduceLeDiff, Nat.reduceMul, Nat.reduceBEq, Nat.reduceBneDiff, Nat.reduceLT, Nat.reduceSub, decide_true, decide_false, and_self, true_and, and_true, false_and, and_false, not_true_eq_false, not_false_eq_true, false_implies, true_implies, implies_true, ge_iff_le, Bool.false_eq_true, List.cons_append, List.nil_append]
  simp +contextual -implicitDefEqProofs only [hg, hw, eS, List.length_map, bne, Bool.not_true, Bool.not_false, Bool.true_and, Bool.false_and, Bool.and_true, Bool.and_false, Bool.true_or, Bool.false_or, Bool.or_true, Bool.or_false, go_sem, eI, eB, ↓reduceIte, Nat.reduceEqDiff, Nat.reduceAdd, Nat.reduceLeDiff, Nat.reduceMul, Nat.reduceBEq, Nat.reduceBneDiff, Nat.reduceLT, Nat.reduceSub, decide_true, decide_false, and_self, true_and, and_true, false_and, and_false, not_true_eq_false, not_false_eq_true, false_implies, true_implies, implies_true, ge_iff_le, Bool.false_eq_true, List.cons_append, List.nil_append]
  refine callQ_self ?_ (hc2 g v hg) ?_
  · exact rfl
  cases hv : okWo g v
  · simp +contextual -implicitDefEqProofs only [folR, hg, hw, hv, bne, Bool.not_true, Bool.not_false, Bool.true_and, Bool.false_and, Bool.and_true, Bool.and_false, Bool.true_or, Bool.false_or, Bool.or_true, Bool.or_false, go_sem, eI, eB, ↓reduceIte, Nat.reduceEqDiff, Nat.reduceAdd, Nat.reduceLeDiff, Nat.reduceMul, Nat.reduceBEq, Nat.reduceBneDiff, Nat.reduceLT, Nat.reduceSub, decide_true, decide_false, and_self, true_and, and_true, false_and, and_false, not_true_eq_false, not_false_eq_true, false_implies, true_implies, implies_true, ge_iff_le, Bool.false_eq_true, List.cons_append, List.nil_append]
  simp +contextual -implicitDefEqProofs only [hg, hv, eS, List.length_map, bne, Bool.not_true, Bool.not_false, Bool.true_and, Bool.false_and, Bool.and_true, Bool.and_false, Bool.true_or, Bool.false_or, Bool.or_true, Bool.or_false, go_sem, eI, eB, ↓reduceIte, Nat.reduceEqDiff, Nat.reduceAdd, Nat.reduceLeDiff, Nat.reduceMul, Nat.reduceBEq, Nat.reduceBneDiff, Nat.reduceLT, Nat.reduceSub, decide_true, decide_false, and_self, true_and, and_true, false_and, and_false, not_true_eq_false, not_false_eq_true, false_implies, true_implies, implies_true, ge_iff_le, Bool.false_eq_true, List.cons_append, List.nil_append]
  obtain ⟨w1, w2, w3⟩ := world_facts hw
  obtain ⟨v1, v2, v3⟩ := word_facts hv
  rw [wrap_i64 (by omega) (by omega)]
  refine callQ_self ?_ (hc3 s0 0 (w.1.2.length - 1)) ?_
  · exact rfl
  cases hs0 : isIn s0 0 (w.1.2.length - 1)
  · simp +contextual -implicitDefEqProofs only [folR, hg, hw, hv, hs0, eS, List.length_map, bne, Bool.not_true, Bool.not_false, Bool.true_and, Bool.false_and, Bool.and_true, Bool.and_false, Bool.true_or, Bool.false_or, Bool.or_true, Bool.or_false, go_sem, eI, eB, ↓reduceIte, Nat.reduceEqDiff, Nat.reduceAdd, Nat.reduceLeDiff, Nat.reduceMul, Nat.reduceBEq, Nat.reduceBneDiff, Nat.reduceLT, Nat.reduceSub, decide_true, decide_false, and_self, true_and, and_true, false_and, and_false, not_true_eq_false, not_false_eq_true, false_implies, true_implies, implies_true, ge_iff_le, Bool.false_eq_true, List.cons_append, List.nil_append]
  have hs0' : 0 ≤ s0 ∧ s0 ≤ w.1.2.length - 1 := by simpa [isIn] using hs0
  have er : folR g w s0 v = (match fol w v.2.2 v.1.2 s0 with | some t => (t, 0) | none => (0, 4)) := by simp [folR, hg, hw, hv, hs0]
  rw [er]
  simp +contextual -implicitDefEqProofs only [hs0, eS, List.length_map, bne, Bool.not_true, Bool.not_false, Bool.true_and, Bool.false_and, Bool.and_true, Bool.and_false, Bool.true_or, Bool.false_or, Bool.or_true, Bool.or_false, go_sem, eI, eB, ↓reduceIte, Nat.reduceEqDiff, Nat.reduceAdd, Nat.reduceLeDiff, Nat.reduceMul, Nat.reduceBEq, Nat.reduceBneDiff, Nat.reduceLT, Nat.reduceSub, decide_true, decide_false, and_self, true_and, and_true, false_and, and_false, not_true_eq_false, not_false_eq_true, false_implies, true_implies, implies_true, ge_iff_le, Bool.false_eq_true, List.cons_append, List.nil_append]
  refine vc_on (α := Nat × Int) [2, 8, 9, 10, 11, 32, 33, 34, 35, 36, 37, 38, 39, 40, 41, 42, 43, 44, 45, 46, 47, 48, 49, 50, 51, 52, 53, 54, 55, 56, 57, 58, 59, 60, 61, 62, 63] (fun x => [(32, .im none (.sc (.int .i64 x.1))), (2, .im none (.sc (.int .i64 x.2)))]) (fun x => x.1 ≤ v.1.2.length ∧ 0 ≤ x.2 ∧ x.2 < w.1.2.length ∧ (if x.1 ≤ v.2.2.length then fol w (v.2.2.drop x.1) (v.1.2.drop x.1) x.2 else some x.2) = fol w v.2.2 v.1.2 s0) (fun x => v.1.2.length - x.1) (0, s0) (by simp only [subEnv, go_sem, ↓reduceIte, Nat.reduceEqDiff, List.length_map]; simp) ⟨Nat.zero_le _, by omega, by omega, by simp⟩ ?_
  rintro ⟨i, s⟩ j
  simp only at j
  obtain ⟨j1, s1, s2, j4⟩ := j
  have hs : s.toNat < w.1.2.length := by omega
  have e1 : D.at (w.1.2.map eI) s.toNat = eI (wAt w s) := at_getD hs
  by_cases hia : i < v.1.2.length
  · have e3 := at_map (f := eI) hia
    rw [if_pos (by omega)] at j4
    by_cases hi : i < v.2.2.length
    · have hf := fol_step (w := w) (s := s) hi hia
      have hc := v3 i hi
      obtain ⟨c1, c2, c3⟩ := w3 v.2.2[i] hc.1 hc.2
      have c4 := c3 s s1 s2
      have e2 := at_map (f := eI) hi
      have e4 : D.at (w.2.2.map (eS 1 eI)) (v.2.2[i]).toNat = eS 1 eI (rowAt w v.2.2[i]) := at_getD c1
      have hsr : s.toNat < (rowAt w v.2.2[i]).2.length := by omega
      have e5 : D.at ((rowAt w v.2.2[i]).2.map eI) s.toNat = eI (wTo w v.2.2[i] s) := at_getD hsr
      have d1 : v.2.2[i] < (w.2.2.length : Int) := by omega
      have d2 : s < ((rowAt w v.2.2[i]).2.length : Int) := by omega
      cases hA : (wAt w s == v.1.2[i])
      · simp +contextual -implicitDefEqProofs only [e1, e2, e3, e4, e5, d1, d2, hc.1, s1, s2, hi, hia, Int.ofNat_lt, List.length_map, Int.natCast_nonneg, eS, hA, bne, Bool.not_true, Bool.not_false, Bool.true_and, Bool.false_and, Bool.and_true, Bool.and_false, Bool.true_or, Bool.false_or, Bool.or_true, Bool.or_false, go_sem, eI, eB, ↓reduceIte, Nat.reduceEqDiff, Nat.reduceAdd, Nat.reduceLeDiff, Nat.reduceMul, Nat.reduceBEq, Nat.reduceBneDiff, Nat.reduceLT, Nat.reduceSub, decide_true, decide_false, and_self, true_and, and_true, false_and, and_false, not_true_eq_false, not_false_eq_true, false_implies, true_implies, implies_true, ge_iff_le, Bool.false_eq_true, List.cons_append, List.nil_append]
        have hA' : ¬ wAt w s = v.1.2[i] := by simpa using hA
        rw [if_neg hA'] at hf
        exact ⟨D.Le.sc_eq (by rw [← j4, hf]), D.Le.sc_eq (by rw [← j4, hf])⟩
      have hA' : wAt w s = v.1.2[i] := by simpa using hA
      rw [if_pos hA'] at hf
      by_cases hT : wTo w v.2.2[i] s < 0
      · simp +contextual -implicitDefEqProofs only [e1, e2, e3, e4, e5, d1, d2, hc.1, s1, s2, hi, hia, Int.ofNat_lt, List.length_map, Int.natCast_nonneg, eS, hA, hT, bne, Bool.not_true, Bool.not_false, Bool.true_and, Bool.false_and, Bool.and_true, Bool.and_false, Bool.true_or, Bool.false_or, Bool.or_true, Bool.or_false, go_sem, eI, eB, ↓reduceIte, Nat.reduceEqDiff, Nat.reduceAdd, Nat.reduceLeDiff, Nat.reduceMul, Nat.reduceBEq, Nat.reduceBneDiff, Nat.reduceLT, Nat.reduceSub, decide_true, decide_false, and_self, true_and, and_true, false_and, and_false, not_true_eq_false, not_false_eq_true, false_implies, true_implies, implies_true, ge_iff_le, Bool.false_eq_true, List.cons_append, List.nil_append]
        rw [if_pos hT] at hf
        exact ⟨D.Le.sc_eq (by rw [← j4, hf]), D.Le.sc_eq (by rw [← j4, hf])⟩
      · simp +contextual -implicitDefEqProofs only [e1, e2, e3, e4, e5, d1, d2, hc.1, s1, s2, hi, hia, Int.ofNat_lt, List.length_map, Int.natCast_nonneg, eS, hA, hT, bne, Bool.not_true, Bool.not_false, Bool.true_and, Bool.false_and, Bool.and_true, Bool.and_false, Bool.true_or, Bool.false_or, Bool.or_true, Bool.or_false, go_sem, eI, eB, ↓reduceIte, Nat.reduceEqDiff, Nat.reduceAdd, Nat.reduceLeDiff, Nat.reduceMul, Nat.reduceBEq, Nat.reduceBneDiff, Nat.reduceLT, Nat.reduceSub, decide_true, decide_false, and_self, true_and, and_true, false_and, and_false, not_true_eq_false, not_false_eq_true, false_implies, true_implies, implies_true, ge_iff_le, Bool.false_eq_true, List.cons_append, List.nil_append]
        rw [if_neg hT] at hf
        rw [wrap_i64 (by omega) (by omega)]
        exact ⟨(i + 1, wTo w v.2.2[i] s), ⟨by simp only; omega, by simp only; omega, by simp only; omega, by simp only; rw [if_pos (by omega), ← hf, j4]⟩, by simp only; omega, Ent.env (by simp only [subEnv, go_sem, ↓reduceIte, Nat.reduceEqDiff, List.length_map]; simp)⟩
    · have hf := fol_end (w := w) (s := s) (cs := v.2.2) (as := v.1.2) (i := i) (by omega) (by omega)
      cases hA : (wAt w s == v.1.2[i])
      · simp +contextual -implicitDefEqProofs only [e1, e3, s1, s2, hi, hia, Int.ofNat_lt, List.length_map, Int.natCast_nonneg, eS, hA, bne, Bool.not_true, Bool.not_false, Bool.true_and, Bool.false_and, Bool.and_true, Bool.and_false, Bool.true_or, Bool.false_or, Bool.or_true, Bool.or_false, go_sem, eI, eB, ↓reduceIte, Nat.reduceEqDiff, Nat.reduceAdd, Nat.reduceLeDiff, Nat.reduceMul, Nat.reduceBEq, Nat.reduceBneDiff, Nat.reduceLT, Nat.reduceSub, decide_true, decide_false, and_self, true_and, and_true, false_and, and_false, not_true_eq_false, not_false_eq_true, false_implies, true_implies, implies_true, ge_iff_le, Bool.false_eq_true, List.cons_append, List.nil_append]
        have hA' : ¬ wAt w s = v.1.2[i] := by simpa using hA
        rw [if_neg hA'] at hf
        exact ⟨D.Le.sc_eq (by rw [← j4, hf]), D.Le.sc_eq (by rw [← j4, hf])⟩
      have hA' : wAt w s = v.1.2[i] := by simpa using hA
      rw [if_pos hA'] at hf
      simp +contextual -implicitDefEqProofs only [e1, e3, s1, s2, hi, hia, Int.ofNat_lt, List.length_map, Int.natCast_nonneg, eS, hA, bne, Bool.not_true, Bool.not_false, Bool.true_and, Bool.false_and, Bool.and_true, Bool.and_false, Bool.true_or, Bool.false_or, Bool.or_true, Bool.or_false, go_sem, eI, eB, ↓reduceIte, Nat.reduceEqDiff, Nat.reduceAdd, Nat.reduceLeDiff, Nat.reduceMul, Nat.reduceBEq, Nat.reduceBneDiff, Nat.reduceLT, Nat.reduceSub, decide_true, decide_false, and_self, true_and, and_true, false_and, and_false, not_true_eq_false, not_false_eq_true, false_implies, true_implies, implies_true, ge_iff_le, Bool.false_eq_true, List.cons_append, List.nil_append]
      rw [wrap_i64 (by omega) (by omega)]
      exact ⟨(i + 1, s), ⟨by simp only; omega, s1, s2, by simp only; rw [if_neg (by omega), ← hf, j4]⟩, by simp only; omega, Ent.env (by simp only [subEnv, go_sem, ↓reduceIte, Nat.reduceEqDiff, List.length_map]; simp)⟩
  · rw [if_neg (by omega)] at j4
    simp +contextual -implicitDefEqProofs only [hia, Int.ofNat_lt, List.length_map, Int.natCast_nonneg, eS, go_sem, eI, eB, ↓reduceIte, Nat.reduceEqDiff, Nat.reduceAdd, Nat.reduceLeDiff, Nat.reduceMul, Nat.reduceBEq, Nat.reduceBneDiff, Nat.reduceLT, Nat.reduceSub, decide_true, decide_false, and_self, true_and, and_true, false_and, and_false, not_true_eq_false, not_false_eq_true, false_implies, true_implies, implies_true, ge_iff_le, Bool.false_eq_true, List.cons_append, List.nil_append]
    exact ⟨D.Le.sc_eq (by rw [← j4]), D.Le.sc_eq (by rw [← j4])⟩
end Go.Ax
