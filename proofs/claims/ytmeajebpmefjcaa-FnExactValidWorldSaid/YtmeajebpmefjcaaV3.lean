/- Contracts of functions of the seat, proved over the engine. No condition. -/
import Derived.Test.YtmeajebpmefjcaaV2
namespace Go.Ax
open Go.Proofs
set_option linter.unusedSimpArgs false
theorem row_len {l : List (SL Int)} (h : D.bdL (l.map (eS 1 eI))) {x : SL Int} (hx : x ∈ l) : x.2.length ≤ 9223372036854775807 := by
  have := bdL_mem h _ (List.mem_map_of_mem hx)
  simp only [eS, D.bd, List.length_map, maxEl] at this
  exact this.1
def rowOk (n : Int) (r : SL Int) : Bool := ((r.2.length : Int) == n) && r.2.all fun k => isIn k (-1) (n - 1)
def headOk (g : Int × Int) (w : W) : Bool := isIn w.1.2.length 1 12 && (w.1.2.all fun x => isIn x 0 (2 ^ g.1.toNat - 1)) && ((w.2.2.length : Int) == g.2)
def okW (g : Int × Int) (w : W) : Bool := headOk g w && w.2.2.all (rowOk w.1.2.length)
theorem af31 (g : Int × Int) (w : W) (h : 0 ≤ g.1 ∧ g.1 ≤ 3) : AF Try.prog 31 [eG g, eW w] (.own (eB (okW g w))) := by
  refine af_of_res res31 mixed rfl fun hb => ?_
  simp +contextual -implicitDefEqProofs only [rc31, eG, eW, eS, List.length_map, go_sem, eI, eB, ↓reduceIte, Nat.reduceEqDiff, Nat.reduceAdd, Nat.reduceLeDiff, Nat.reduceMul, Nat.reduceBEq, Nat.reduceBneDiff, Nat.reduceLT, Nat.reduceSub, decide_true, decide_false, and_self, true_and, and_true, false_and, and_false, not_true_eq_false, not_false_eq_true, false_implies, true_implies, implies_true, ge_iff_le]
  have hp := pow_le h.1 h.2
  refine callQ_self ?_ (af58 w.1.2.length 1 12) ?_
  · exact rfl
  have fin : headOk g w = true → ∀ st : St, st.n = 56 → True := fun _ _ _ => trivial
  cases h1 : isIn w.1.2.length 1 12
  · simp +contextual -implicitDefEqProofs only [go_sem, eI, eB, ↓reduceIte, Nat.reduceEqDiff, Nat.reduceAdd, Nat.reduceLeDiff, Nat.reduceMul, Nat.reduceBEq, Nat.reduceBneDiff, Nat.reduceLT, Nat.reduceSub, decide_true, decide_false, and_self, true_and, and_true, false_and, and_false, not_true_eq_false, not_false_eq_true, false_implies, true_implies, implies_true, ge_iff_le, h1, Bool.not_false]
    exact D.Le.sc_eq (by simp [okW, headOk, h1])
  simp +contextual -implicitDefEqProofs only [h1, Bool.not_true, List.length_map, go_sem, eI, eB, ↓reduceIte, Nat.reduceEqDiff, Nat.reduceAdd, Nat.reduceLeDiff, Nat.reduceMul, Nat.reduceBEq, Nat.reduceBneDiff, Nat.reduceLT, Nat.reduceSub, decide_true, decide_false, and_self, true_and, and_true, false_and, and_false, not_true_eq_false, not_false_eq_true, false_implies, true_implies, implies_true, ge_iff_le]
  refine callQ_self ?_ (af60 g h) ?_
  · exact rfl
  simp +contextual -implicitDefEqProofs only [eS, Bool.not_true, go_sem, eI, eB, ↓reduceIte, Nat.reduceEqDiff, Nat.reduceAdd, Nat.reduceLeDiff, Nat.reduceMul, Nat.reduceBEq, Nat.reduceBneDiff, Nat.reduceLT, Nat.reduceSub, decide_true, decide_false, and_self, true_and, and_true, false_and, and_false, not_true_eq_false, not_false_eq_true, false_implies, true_implies, implies_true, ge_iff_le]
  refine callQ_self ?_ (af59 w.1 (2 ^ g.1.toNat) (by omega) (by omega)) ?_
  · exact rfl
  simp +contextual -implicitDefEqProofs only [eS, Bool.not_true, go_sem, eI, eB, ↓reduceIte, Nat.reduceEqDiff, Nat.reduceAdd, Nat.reduceLeDiff, Nat.reduceMul, Nat.reduceBEq, Nat.reduceBneDiff, Nat.reduceLT, Nat.reduceSub, decide_true, decide_false, and_self, true_and, and_true, false_and, and_false, not_true_eq_false, not_false_eq_true, false_implies, true_implies, implies_true, ge_iff_le]
  refine ⟨fun h2 => ⟨fun h3 => D.Le.sc_eq ?_, fun h3 => ?_⟩, fun h2 => D.Le.sc_eq ?_⟩
  · simp at h3
    simp [okW, headOk, h3]
  · have hh : headOk g w = true := by
      simp only [Bool.not_eq_false'] at h2
      simp at h3
      simp [headOk, h1, h2, h3]
    have e0 : okW g w = w.2.2.all (rowOk w.1.2.length) := by simp [okW, hh]
    rw [e0]
    have hl := hb.2.1
    simp only [eW, D.bd, D.bdL, eS, List.length_map] at hl
    have hl2 := hl.2.1.1
    have hl3 := hl.2.1.2.2
    unfold maxEl at hl2
    have hn : (w.1.2.length : Int) ≤ 12 := by
      simp [isIn] at h1
      omega
    refine vc_loop (α := Nat) (fun i => ⟨56, [(5, .im none (.sc (.int .i64 w.1.2.length))), (33, .im none (.ls w.2.1 1 (w.2.2.map (eS 1 eI)))), (34, .im none (.sc (.int .i64 w.2.2.length))), (35, .im none (.sc (.int .i64 i)))], []⟩)
      (fun i => i ≤ w.2.2.length ∧ (w.2.2.drop i).all (rowOk w.1.2.length) = w.2.2.all (rowOk w.1.2.length)) (fun i => w.2.2.length - i) 0
      (Ent.clear (by simp only [subEnv, go_sem, ↓reduceIte, Nat.reduceEqDiff, List.length_map]; simp) rfl) ⟨by simp, by simp⟩ ?_
    rintro i ⟨j1, j4⟩
    by_cases hi : i < w.2.2.length
    · have e1 := at_map (f := eS 1 eI) hi
      rw [List.drop_eq_getElem_cons hi, List.all_cons] at j4
      generalize hx : w.2.2[i] = x at e1 j4
      have hxl : x.2.length ≤ 9223372036854775807 := row_len hl3 (by rw [← hx]; exact List.getElem_mem _)
      simp +contextual -implicitDefEqProofs only [eS, e1, hi, Int.ofNat_lt, List.length_map, Int.natCast_nonneg, go_sem, eI, eB, ↓reduceIte, Nat.reduceEqDiff, Nat.reduceAdd, Nat.reduceLeDiff, Nat.reduceMul, Nat.reduceBEq, Nat.reduceBneDiff, Nat.reduceLT, Nat.reduceSub, decide_true, decide_false, and_self, true_and, and_true, false_and, and_false, not_true_eq_false, not_false_eq_true, false_implies, true_implies, implies_true, ge_iff_le]
      refine ⟨fun h => D.Le.sc_eq ?_, fun h => ?_⟩
      · rw [← j4]
        simp at h
        simp [rowOk, h]
      simp only [bne_eq_false_iff_eq] at h
      refine vc_loop (α := Nat) (fun j => ⟨56, [(5, .im none (.sc (.int .i64 w.1.2.length))), (33, .im none (.ls w.2.1 1 (w.2.2.map (eS 1 eI)))), (34, .im none (.sc (.int .i64 w.2.2.length))), (35, .im none (.sc (.int .i64 i))),
          (43, .im none (.ls x.1 1 (x.2.map eI))), (44, .im none (.sc (.int .i64 x.2.length))), (45, .im none (.sc (.int .i64 j)))], []⟩)
        (fun j => j ≤ x.2.length ∧ (x.2.drop j).all (fun k => isIn k (-1) (w.1.2.length - 1)) = x.2.all fun k => isIn k (-1) (w.1.2.length - 1)) (fun j => x.2.length - j) 0
        (Ent.clear (by simp only [subEnv, go_sem, ↓reduceIte, Nat.reduceEqDiff, List.length_map]; simp) rfl) ⟨by simp, by simp⟩ ?_
      rintro j ⟨k1, k4⟩
      by_cases hj : j < x.2.length
      · have e2 := at_map (f := eI) hj
        rw [List.drop_eq_getElem_cons hj, List.all_cons] at k4
        simp +contextual -implicitDefEqProofs only [e2, hj, Int.ofNat_lt, List.length_map, Int.natCast_nonneg, go_sem, eI, eB, ↓reduceIte, Nat.reduceEqDiff, Nat.reduceAdd, Nat.reduceLeDiff, Nat.reduceMul, Nat.reduceBEq, Nat.reduceBneDiff, Nat.reduceLT, Nat.reduceSub, decide_true, decide_false, and_self, true_and, and_true, false_and, and_false, not_true_eq_false, not_false_eq_true, false_implies, true_implies, implies_true, ge_iff_le]
        rw [wrap_i64 (by omega) (by omega)]
        refine callQ_self ?_ (af58 x.2[j] (-1) (w.1.2.length - 1)) ?_
        · exact rfl
        simp +contextual -implicitDefEqProofs only [go_sem, eI, eB, ↓reduceIte, Nat.reduceEqDiff, Nat.reduceAdd, Nat.reduceLeDiff, Nat.reduceMul, Nat.reduceBEq, Nat.reduceBneDiff, Nat.reduceLT, Nat.reduceSub, decide_true, decide_false, and_self, true_and, and_true, false_and, and_false, not_true_eq_false, not_false_eq_true, false_implies, true_implies, implies_true, ge_iff_le]
        cases hq : isIn x.2[j] (-1) (w.1.2.length - 1)
        · rw [hq] at k4
          simp +contextual -implicitDefEqProofs only [go_sem, eI, eB, ↓reduceIte, Nat.reduceEqDiff, Nat.reduceAdd, Nat.reduceLeDiff, Nat.reduceMul, Nat.reduceBEq, Nat.reduceBneDiff, Nat.reduceLT, Nat.reduceSub, decide_true, decide_false, and_self, true_and, and_true, false_and, and_false, not_true_eq_false, not_false_eq_true, false_implies, true_implies, implies_true, ge_iff_le]
          refine D.Le.sc_eq ?_
          rw [← j4]
          simp [rowOk, ← k4]
        · rw [hq] at k4
          simp +contextual -implicitDefEqProofs only [go_sem, eI, eB, ↓reduceIte, Nat.reduceEqDiff, Nat.reduceAdd, Nat.reduceLeDiff, Nat.reduceMul, Nat.reduceBEq, Nat.reduceBneDiff, Nat.reduceLT, Nat.reduceSub, decide_true, decide_false, and_self, true_and, and_true, false_and, and_false, not_true_eq_false, not_false_eq_true, false_implies, true_implies, implies_true, ge_iff_le]
          rw [wrap_i64 (by omega) (by omega)]
          exact ⟨j + 1, ⟨by omega, by rw [← k4]; rfl⟩, by omega, Ent.env (by simp only [subEnv, go_sem, ↓reduceIte, Nat.reduceEqDiff, List.length_map]; simp)⟩
      · simp +contextual -implicitDefEqProofs only [hj, Int.ofNat_lt, List.length_map, go_sem, eI, eB, ↓reduceIte, Nat.reduceEqDiff, Nat.reduceAdd, Nat.reduceLeDiff, Nat.reduceMul, Nat.reduceBEq, Nat.reduceBneDiff, Nat.reduceLT, Nat.reduceSub, decide_true, decide_false, and_self, true_and, and_true, false_and, and_false, not_true_eq_false, not_false_eq_true, false_implies, true_implies, implies_true, ge_iff_le]
        rw [wrap_i64 (by omega) (by omega)]
        refine ⟨i + 1, ⟨by omega, ?_⟩, by omega, Ent.env (by simp only [subEnv, go_sem, ↓reduceIte, Nat.reduceEqDiff, List.length_map]; simp)⟩
        rw [← j4]
        rw [List.drop_eq_nil_of_le (by omega)] at k4
        simp only [rowOk, h, ← k4]
        simp
    · simp +contextual -implicitDefEqProofs only [hi, Int.ofNat_lt, List.length_map, go_sem, eI, eB, ↓reduceIte, Nat.reduceEqDiff, Nat.reduceAdd, Nat.reduceLeDiff, Nat.reduceMul, Nat.reduceBEq, Nat.reduceBneDiff, Nat.reduceLT, Nat.reduceSub, decide_true, decide_false, and_self, true_and, and_true, false_and, and_false, not_true_eq_false, not_false_eq_true, false_implies, true_implies, implies_true, ge_iff_le]
      refine D.Le.sc_eq ?_
      rw [← j4, List.drop_eq_nil_of_le (by omega)]
      rfl
  · simp only [Bool.not_eq_true'] at h2
    simp [okW, headOk, h2]
theorem af27 (g : Int × Int) (w : W) : AF Try.prog 27 [eG g, .pt (eW w) 0] (.own (eB (okG g && okW g w))) := by
  refine af_of_res res27 mixed rfl fun hb => ?_
  simp +contextual -implicitDefEqProofs only [rc27, eG, eW, eS, List.length_map, go_sem, eI, eB, ↓reduceIte, Nat.reduceEqDiff, Nat.reduceAdd, Nat.reduceLeDiff, Nat.reduceMul, Nat.reduceBEq, Nat.reduceBneDiff, Nat.reduceLT, Nat.reduceSub, decide_true, decide_false, and_self, true_and, and_true, false_and, and_false, not_true_eq_false, not_false_eq_true, false_implies, true_implies, implies_true, ge_iff_le]
  refine callQ_self ?_ (af55 g) ?_
  · exact rfl
  cases hg : okG g
  · simp +contextual -implicitDefEqProofs only [go_sem, eI, eB, ↓reduceIte, Nat.reduceEqDiff, Nat.reduceAdd, Nat.reduceLeDiff, Nat.reduceMul, Nat.reduceBEq, Nat.reduceBneDiff, Nat.reduceLT, Nat.reduceSub, decide_true, decide_false, and_self, true_and, and_true, false_and, and_false, not_true_eq_false, not_false_eq_true, false_implies, true_implies, implies_true, ge_iff_le, hg]
  have hG : 0 ≤ g.1 ∧ g.1 ≤ 3 := by
    simp [okG, isIn] at hg
    omega
  simp +contextual -implicitDefEqProofs only [hg, go_sem, eI, eB, ↓reduceIte, Nat.reduceEqDiff, Nat.reduceAdd, Nat.reduceLeDiff, Nat.reduceMul, Nat.reduceBEq, Nat.reduceBneDiff, Nat.reduceLT, Nat.reduceSub, decide_true, decide_false, and_self, true_and, and_true, false_and, and_false, not_true_eq_false, not_false_eq_true, false_implies, true_implies, implies_true, ge_iff_le]
  refine callQ_self ?_ (af56 w.1.2.length 1 12) ?_
  · exact rfl
  simp +contextual -implicitDefEqProofs only [eS, List.length_map, go_sem, eI, eB, ↓reduceIte, Nat.reduceEqDiff, Nat.reduceAdd, Nat.reduceLeDiff, Nat.reduceMul, Nat.reduceBEq, Nat.reduceBneDiff, Nat.reduceLT, Nat.reduceSub, decide_true, decide_false, and_self, true_and, and_true, false_and, and_false, not_true_eq_false, not_false_eq_true, false_implies, true_implies, implies_true, ge_iff_le]
  cases h1 : isIn w.1.2.length 1 12
  · simp +contextual -implicitDefEqProofs only [go_sem, eI, eB, ↓reduceIte, Nat.reduceEqDiff, Nat.reduceAdd, Nat.reduceLeDiff, Nat.reduceMul, Nat.reduceBEq, Nat.reduceBneDiff, Nat.reduceLT, Nat.reduceSub, decide_true, decide_false, and_self, true_and, and_true, false_and, and_false, not_true_eq_false, not_false_eq_true, false_implies, true_implies, implies_true, ge_iff_le, h1]
    exact D.Le.sc_eq (by simp [okW, headOk, h1])
  simp +contextual -implicitDefEqProofs only [h1, List.length_map, go_sem, eI, eB, ↓reduceIte, Nat.reduceEqDiff, Nat.reduceAdd, Nat.reduceLeDiff, Nat.reduceMul, Nat.reduceBEq, Nat.reduceBneDiff, Nat.reduceLT, Nat.reduceSub, decide_true, decide_false, and_self, true_and, and_true, false_and, and_false, not_true_eq_false, not_false_eq_true, false_implies, true_implies, implies_true, ge_iff_le]
  refine ⟨fun h3 => D.Le.sc_eq ?_, fun h3 => ?_⟩
  · simp at h3
    simp [okW, headOk, h3]
  simp at h3
  have hl := hb.2.1
  simp only [eW, D.bd, D.bdL, eS, List.length_map] at hl
  have hl1 := hl.1.1
  have hl2 := hl.2.1.1
  have hl3 := hl.2.1.2.2
  unfold maxEl at hl1 hl2
  have hn : 1 ≤ (w.1.2.length : Int) ∧ (w.1.2.length : Int) ≤ 12 := by
    simp [isIn] at h1
    omega
  refine vc_loop (α := Nat) (fun i => ⟨96, [(1, .im none (.pt (.ag [.ls w.1.1 1 (w.1.2.map eI), .ls w.2.1 1 (w.2.2.map (eS 1 eI))]) 0)), (2, .pw 2 0 0), (5, .im none (.sc (.int .i64 w.1.2.length))), (6, .im none (.sc (.int .i64 i)))], [(2, .ar false (some false) 2 [.ag [.sc (.int .i64 g.1), .sc (.int .i64 g.2)]])]⟩)
    (fun i => i ≤ w.1.2.length ∧ (w.1.2.drop i).all (fun x => isIn x 0 (2 ^ g.1.toNat - 1)) = w.1.2.all fun x => isIn x 0 (2 ^ g.1.toNat - 1)) (fun i => w.1.2.length - i) 0
    (Ent.env (by simp only [subEnv, go_sem, ↓reduceIte, Nat.reduceEqDiff, List.length_map]; simp)) ⟨by simp, by simp⟩ ?_
  rintro i ⟨j1, j4⟩
  by_cases hi : i < w.1.2.length
  · have e1 := at_map (f := eI) hi
    rw [List.drop_eq_getElem_cons hi, List.all_cons] at j4
    simp +contextual -implicitDefEqProofs only [eS, e1, hi, Int.ofNat_lt, List.length_map, Int.natCast_nonneg, go_sem, eI, eB, ↓reduceIte, Nat.reduceEqDiff, Nat.reduceAdd, Nat.reduceLeDiff, Nat.reduceMul, Nat.reduceBEq, Nat.reduceBneDiff, Nat.reduceLT, Nat.reduceSub, decide_true, decide_false, and_self, true_and, and_true, false_and, and_false, not_true_eq_false, not_false_eq_true, false_implies, true_implies, implies_true, ge_iff_le]
    refine callQ_self ?_ (af57 g w.1.2[i] hG) ?_
    · exact rfl
    simp +contextual -implicitDefEqProofs only [go_sem, eI, eB, ↓reduceIte, Nat.reduceEqDiff, Nat.reduceAdd, Nat.reduceLeDiff, Nat.reduceMul, Nat.reduceBEq, Nat.reduceBneDiff, Nat.reduceLT, Nat.reduceSub, decide_true, decide_false, and_self, true_and, and_true, false_and, and_false, not_true_eq_false, not_false_eq_true, false_implies, true_implies, implies_true, ge_iff_le]
    cases hq : isIn w.1.2[i] 0 (2 ^ g.1.toNat - 1)
    · rw [hq] at j4
      simp +contextual -implicitDefEqProofs only [go_sem, eI, eB, ↓reduceIte, Nat.reduceEqDiff, Nat.reduceAdd, Nat.reduceLeDiff, Nat.reduceMul, Nat.reduceBEq, Nat.reduceBneDiff, Nat.reduceLT, Nat.reduceSub, decide_true, decide_false, and_self, true_and, and_true, false_and, and_false, not_true_eq_false, not_false_eq_true, false_implies, true_implies, implies_true, ge_iff_le]
      refine D.Le.sc_eq ?_
      simp [okW, headOk, ← j4]
    · rw [hq] at j4
      simp +contextual -implicitDefEqProofs only [go_sem, eI, eB, ↓reduceIte, Nat.reduceEqDiff, Nat.reduceAdd, Nat.reduceLeDiff, Nat.reduceMul, Nat.reduceBEq, Nat.reduceBneDiff, Nat.reduceLT, Nat.reduceSub, decide_true, decide_false, and_self, true_and, and_true, false_and, and_false, not_true_eq_false, not_false_eq_true, false_implies, true_implies, implies_true, ge_iff_le]
      rw [wrap_i64 (by omega) (by omega)]
      exact ⟨i + 1, ⟨by omega, by rw [← j4]; rfl⟩, by omega, Ent.env (by simp only [subEnv, go_sem, ↓reduceIte, Nat.reduceEqDiff, List.length_map]; simp)⟩
  · simp +contextual -implicitDefEqProofs only [hi, Int.ofNat_lt, List.length_map, go_sem, eI, eB, ↓reduceIte, Nat.reduceEqDiff, Nat.reduceAdd, Nat.reduceLeDiff, Nat.reduceMul, Nat.reduceBEq, Nat.reduceBneDiff, Nat.reduceLT, Nat.reduceSub, decide_true, decide_false, and_self, true_and, and_true, false_and, and_false, not_true_eq_false, not_false_eq_true, false_implies, true_implies, implies_true, ge_iff_le]
    rw [List.drop_eq_nil_of_le (by omega)] at j4
    have hh : headOk g w = true := by simp [headOk, h1, h3, ← j4]
    have e0 : okW g w = w.2.2.all (rowOk w.1.2.length) := by simp [okW, hh]
    rw [e0]
    refine vc_loop (α := Nat) (fun i => ⟨96, [(1, .im none (.pt (.ag [.ls w.1.1 1 (w.1.2.map eI), .ls w.2.1 1 (w.2.2.map (eS 1 eI))]) 0)), (5, .im none (.sc (.int .i64 w.1.2.length))), (7, .im none (.sc (.int .i64 i)))], []⟩)
      (fun i => i ≤ w.2.2.length ∧ (w.2.2.drop i).all (rowOk w.1.2.length) = w.2.2.all (rowOk w.1.2.length)) (fun i => w.2.2.length - i) 0
      (Ent.clear (by simp only [subEnv, go_sem, ↓reduceIte, Nat.reduceEqDiff, List.length_map]; simp) rfl) ⟨by simp, by simp⟩ ?_
    clear j1 j4 hi i
    rintro i ⟨j1, j4⟩
    by_cases hi : i < w.2.2.length
    · have e1 := at_map (f := eS 1 eI) hi
      rw [List.drop_eq_getElem_cons hi, List.all_cons] at j4
      generalize hx : w.2.2[i] = x at e1 j4
      have hxl : x.2.length ≤ 9223372036854775807 := row_len hl3 (by rw [← hx]; exact List.getElem_mem _)
      simp +contextual -implicitDefEqProofs only [eS, e1, hi, Int.ofNat_lt, List.length_map, Int.natCast_nonneg, go_sem, eI, eB, ↓reduceIte, Nat.reduceEqDiff, Nat.reduceAdd, Nat.reduceLeDiff, Nat.reduceMul, Nat.reduceBEq, Nat.reduceBneDiff, Nat.reduceLT, Nat.reduceSub, decide_true, decide_false, and_self, true_and, and_true, false_and, and_false, not_true_eq_false, not_false_eq_true, false_implies, true_implies, implies_true, ge_iff_le]
      refine ⟨fun h => D.Le.sc_eq ?_, fun h => ?_⟩
      · rw [← j4]
        simp at h
        simp [rowOk, h]
      simp only [bne_eq_false_iff_eq] at h
      refine vc_loop (α := Nat) (fun j => ⟨96, [(1, .im none (.pt (.ag [.ls w.1.1 1 (w.1.2.map eI), .ls w.2.1 1 (w.2.2.map (eS 1 eI))]) 0)), (5, .im none (.sc (.int .i64 w.1.2.length))), (7, .im none (.sc (.int .i64 i))), (8, .im none (.sc (.int .i64 j)))], []⟩)
        (fun j => j ≤ x.2.length ∧ (x.2.drop j).all (fun k => isIn k (-1) (w.1.2.length - 1)) = x.2.all fun k => isIn k (-1) (w.1.2.length - 1)) (fun j => x.2.length - j) 0
        (Ent.clear (by simp only [subEnv, go_sem, ↓reduceIte, Nat.reduceEqDiff, List.length_map]; simp) rfl) ⟨by simp, by simp⟩ ?_
      rintro j ⟨k1, k4⟩
      by_cases hj : j < x.2.length
      · have e2 := at_map (f := eI) hj
        rw [List.drop_eq_getElem_cons hj, List.all_cons] at k4
        simp +contextual -implicitDefEqProofs only [eS, e1, e2, hi, hj, Int.ofNat_lt, List.length_map, Int.natCast_nonneg, go_sem, eI, eB, ↓reduceIte, Nat.reduceEqDiff, Nat.reduceAdd, Nat.reduceLeDiff, Nat.reduceMul, Nat.reduceBEq, Nat.reduceBneDiff, Nat.reduceLT, Nat.reduceSub, decide_true, decide_false, and_self, true_and, and_true, false_and, and_false, not_true_eq_false, not_false_eq_true, false_implies, true_implies, implies_true, ge_iff_le]
        rw [wrap_i64 (by omega) (by omega)]
        refine callQ_self ?_ (af56 x.2[j] (-1) (w.1.2.length - 1)) ?_
        · exact rfl
        simp +contextual -implicitDefEqProofs only [go_sem, eI, eB, ↓reduceIte, Nat.reduceEqDiff, Nat.reduceAdd, Nat.reduceLeDiff, Nat.reduceMul, Nat.reduceBEq, Nat.reduceBneDiff, Nat.reduceLT, Nat.reduceSub, decide_true, decide_false, and_self, true_and, and_true, false_and, and_false, not_true_eq_false, not_false_eq_true, false_implies, true_implies, implies_true, ge_iff_le]
        cases hq : isIn x.2[j] (-1) (w.1.2.length - 1)
        · rw [hq] at k4
          simp +contextual -implicitDefEqProofs only [go_sem, eI, eB, ↓reduceIte, Nat.reduceEqDiff, Nat.reduceAdd, Nat.reduceLeDiff, Nat.reduceMul, Nat.reduceBEq, Nat.reduceBneDiff, Nat.reduceLT, Nat.reduceSub, decide_true, decide_false, and_self, true_and, and_true, false_and, and_false, not_true_eq_false, not_false_eq_true, false_implies, true_implies, implies_true, ge_iff_le]
          refine D.Le.sc_eq ?_
          rw [← j4]
          simp [rowOk, ← k4]
        · rw [hq] at k4
          simp +contextual -implicitDefEqProofs only [go_sem, eI, eB, ↓reduceIte, Nat.reduceEqDiff, Nat.reduceAdd, Nat.reduceLeDiff, Nat.reduceMul, Nat.reduceBEq, Nat.reduceBneDiff, Nat.reduceLT, Nat.reduceSub, decide_true, decide_false, and_self, true_and, and_true, false_and, and_false, not_true_eq_false, not_false_eq_true, false_implies, true_implies, implies_true, ge_iff_le]
          rw [wrap_i64 (by omega) (by omega)]
          exact ⟨j + 1, ⟨by omega, by rw [← k4]; rfl⟩, by omega, Ent.env (by simp only [subEnv, go_sem, ↓reduceIte, Nat.reduceEqDiff, List.length_map]; simp)⟩
      · simp +contextual -implicitDefEqProofs only [eS, e1, hi, hj, Int.ofNat_lt, List.length_map, Int.natCast_nonneg, go_sem, eI, eB, ↓reduceIte, Nat.reduceEqDiff, Nat.reduceAdd, Nat.reduceLeDiff, Nat.reduceMul, Nat.reduceBEq, Nat.reduceBneDiff, Nat.reduceLT, Nat.reduceSub, decide_true, decide_false, and_self, true_and, and_true, false_and, and_false, not_true_eq_false, not_false_eq_true, false_implies, true_implies, implies_true, ge_iff_le]
        rw [wrap_i64 (by omega) (by omega)]
        refine ⟨i + 1, ⟨by omega, ?_⟩, by omega, Ent.env (by simp only [subEnv, go_sem, ↓reduceIte, Nat.reduceEqDiff, List.length_map]; simp)⟩
        rw [← j4]
        rw [List.drop_eq_nil_of_le (by omega)] at k4
        simp only [rowOk, h, ← k4]
        simp
    · simp +contextual -implicitDefEqProofs only [hi, Int.ofNat_lt, List.length_map, go_sem, eI, eB, ↓reduceIte, Nat.reduceEqDiff, Nat.reduceAdd, Nat.reduceLeDiff, Nat.reduceMul, Nat.reduceBEq, Nat.reduceBneDiff, Nat.reduceLT, Nat.reduceSub, decide_true, decide_false, and_self, true_and, and_true, false_and, and_false, not_true_eq_false, not_false_eq_true, false_implies, true_implies, implies_true, ge_iff_le]
      refine D.Le.sc_eq ?_
      rw [← j4, List.drop_eq_nil_of_le (by omega)]
      rfl
end Go.Ax
