/- Contracts of functions of the seat, proved over the engine. No condition. -/
import Derived.Test.YtbnlielpckndkaaX3
set_option linter.unusedSimpArgs false
set_option linter.unusedVariables false
set_option linter.unnecessarySimpa false
namespace Go.Ax
set_option linter.unusedSimpArgs false
set_option maxHeartbeats 4000000
abbrev Wd := SL Int × SL (SL Int)
def eW (w : Wd) : D := .ag [eS 1 eI w.1, eS 1 (eS 1 eI) w.2]
abbrev Wo := SL Int × SL Int
def eWo (v : Wo) : D := .ag [eS 1 eI v.1, eS 1 eI v.2]
def allIn (lo hi : Int) (l : List Int) : Bool := l.all fun x => isIn x lo hi
def rowOk (n : Int) (r : SL Int) : Bool := lenIs n r && allIn (-1) (n - 1) r.2
def atomsOf (g : Int × Int) : Int := 2 ^ g.1.toNat
def okW (g : Int × Int) (w : Wd) : Bool := isIn w.1.2.length 1 12 && (allIn 0 (atomsOf g - 1) w.1.2 && (lenIs g.2 w.2 && w.2.2.all (rowOk w.1.2.length)))
def traceOk (g : Int × Int) (v : Wo) : Bool := lenIs (v.2.2.length + 1) v.1 && (allIn 0 (atomsOf g - 1) v.1.2 && allIn 0 (g.2 - 1) v.2.2)
def okWo (g : Int × Int) (v : Wo) : Bool := decide ((v.2.2.length : Int) ≤ 10) && traceOk g v
theorem okG_iff {g : Int × Int} (h : okG g = true) : (0 ≤ g.1 ∧ g.1 ≤ 3) ∧ 0 ≤ g.2 ∧ g.2 ≤ 4 := by simpa [okG, isIn] using h
theorem pow_small {n : Int} (h1 : 0 ≤ n) (h2 : n ≤ 3) : IntKind.i64.wrap (1 * 2 ^ min n.toNat 64) = 2 ^ n.toNat := by
  have : n = 0 ∨ n = 1 ∨ n = 2 ∨ n = 3 := by omega
  rcases this with rfl | rfl | rfl | rfl <;> decide
theorem atoms_le {g : Int × Int} (h : okG g = true) : 1 ≤ atomsOf g ∧ atomsOf g ≤ 8 := by
  have h := (okG_iff h).1
  have : g.1 = 0 ∨ g.1 = 1 ∨ g.1 = 2 ∨ g.1 = 3 := by omega
  unfold atomsOf
  rcases this with e | e | e | e <;> rw [e] <;> decide

def k_l01Atoms : RC :=
 (.seq
  (.reg false [⟨none, .box 1 2 (.t 0)⟩,
    ⟨none, .mv 2 (.c (.sc (.int .i64 0)))⟩])
  ((.seq
   (.reg false [⟨none, .fa 3 0 (.t 1)⟩,
     ⟨none, .ld 4 false 1 (.t 3)⟩,
     ⟨none, .cvt 5 .u64 (.t 4)⟩,
     ⟨none, .bin 6 .shl (.c (.sc (.int .i64 1))) (.t 5)⟩,
     ⟨none, .mv 2 (.t 6)⟩])
   (.ret))))
def K_l01Atoms (P : Program) (f : Nat) : Prop := ∀ (g : Int × Int) (h : okG g = true), AF P f [eG g] (.own (eI (atomsOf g)))
theorem a_l01Atoms {P : Program} (hm : P.follows .mixedOrders = true) {g : Nat} (hr : resF P g = some (7, k_l01Atoms, [.t 2])) : K_l01Atoms P g := by
  intro g h
  refine af_of_res hr hm rfl fun hb => ?_
  simp +contextual -implicitDefEqProofs only [k_l01Atoms, eG, go_sem, eI, eB, ↓reduceIte, Nat.reduceEqDiff, Nat.reduceAdd, Nat.reduceLeDiff, Nat.reduceMul, Nat.reduceBEq, Nat.reduceBneDiff, Nat.reduceLT, Nat.reduceSub, decide_true, decide_false, and_self, true_and, and_true, false_and, and_false, not_true_eq_false, not_false_eq_true, false_implies, true_implies, implies_true, ge_iff_le, Bool.false_eq_true, List.cons_append, List.nil_append]
  have h := (okG_iff h).1
  refine D.Le.sc_eq ?_
  rw [show IntKind.u64.wrap g.1 = g.1 by simp [IntKind.wrap, IntKind.bits, IntKind.signed]; omega, pow_small h.1 h.2]
  rfl

def k_atomsIn : RC :=
 (.seq
  (.reg false [⟨none, .box 1 2 (.t 0)⟩,
    ⟨none, .mv 2 (.c (.sc (.int .i64 0)))⟩])
  ((.seq
   (.reg false [⟨none, .fa 3 0 (.t 1)⟩,
     ⟨none, .ld 4 false 1 (.t 3)⟩,
     ⟨none, .bin 5 .shl (.c (.sc (.int .i64 1))) (.t 4)⟩,
     ⟨none, .mv 2 (.t 5)⟩])
   (.ret))))
def K_atomsIn (P : Program) (f : Nat) : Prop := ∀ (g : Int × Int) (h : okG g = true), AF P f [eG g] (.own (eI (atomsOf g)))
theorem a_atomsIn {P : Program} (hm : P.follows .mixedOrders = true) {g : Nat} (hr : resF P g = some (6, k_atomsIn, [.t 2])) : K_atomsIn P g := by
  intro g h
  refine af_of_res hr hm rfl fun hb => ?_
  simp +contextual -implicitDefEqProofs only [k_atomsIn, eG, go_sem, eI, eB, ↓reduceIte, Nat.reduceEqDiff, Nat.reduceAdd, Nat.reduceLeDiff, Nat.reduceMul, Nat.reduceBEq, Nat.reduceBneDiff, Nat.reduceLT, Nat.reduceSub, decide_true, decide_false, and_self, true_and, and_true, false_and, and_false, not_true_eq_false, not_false_eq_true, false_implies, true_implies, implies_true, ge_iff_le, Bool.false_eq_true, List.cons_append, List.nil_append]
  have h := (okG_iff h).1
  exact ⟨h.1, D.Le.sc_eq (by rw [pow_small h.1 h.2]; rfl)⟩

def k_l02Atom (f1 f2 : Nat) : RC :=
 (.seq
  (.reg false [⟨none, .box 2 2 (.t 0)⟩,
    ⟨none, .mv 4 (.c (.sc (.bool false)))⟩])
  ((.seq
   (.reg false [⟨none, .mv 5 (.t 1)⟩,
     ⟨none, .ld 6 true 2 (.t 2)⟩,
     ⟨none, .call (some 7) f1 [(.t 6)]⟩,
     ⟨none, .bin 8 .sub (.t 7) (.c (.sc (.int .i64 1)))⟩,
     ⟨none, .call (some 9) f2 [(.t 5), (.c (.sc (.int .i64 0))), (.t 8)]⟩,
     ⟨none, .mv 4 (.t 9)⟩])
   (.ret))))
def K_l02Atom (P : Program) (f : Nat) : Prop := ∀ (g : Int × Int) (n : Int) (h : okG g = true), AF P f [eG g, eI n] (.own (eB (isIn n 0 (atomsOf g - 1))))
theorem a_l02Atom {P : Program} (hm : P.follows .mixedOrders = true) {g f1 f2 : Nat} (hr : resF P g = some (10, k_l02Atom f1 f2, [.t 4])) (hc1 : K_l01Atoms P f1) (hc2 : K_l00In P f2) : K_l02Atom P g := by
  intro g n h
  refine af_of_res hr hm rfl fun hb => ?_
  simp +contextual -implicitDefEqProofs only [k_l02Atom, eG, go_sem, eI, eB, ↓reduceIte, Nat.reduceEqDiff, Nat.reduceAdd, Nat.reduceLeDiff, Nat.reduceMul, Nat.reduceBEq, Nat.reduceBneDiff, Nat.reduceLT, Nat.reduceSub, decide_true, decide_false, and_self, true_and, and_true, false_and, and_false, not_true_eq_false, not_false_eq_true, false_implies, true_implies, implies_true, ge_iff_le, Bool.false_eq_true, List.cons_append, List.nil_append]
  refine callQ_self ?_ (hc1 g h) ?_
  · exact rfl
  simp +contextual -implicitDefEqProofs only [go_sem, eI, eB, ↓reduceIte, Nat.reduceEqDiff, Nat.reduceAdd, Nat.reduceLeDiff, Nat.reduceMul, Nat.reduceBEq, Nat.reduceBneDiff, Nat.reduceLT, Nat.reduceSub, decide_true, decide_false, and_self, true_and, and_true, false_and, and_false, not_true_eq_false, not_false_eq_true, false_implies, true_implies, implies_true, ge_iff_le, Bool.false_eq_true, List.cons_append, List.nil_append]
  have hp := atoms_le h
  rw [wrap_i64 (by omega) (by omega)]
  refine callQ_self ?_ (hc2 n 0 (atomsOf g - 1)) ?_
  · exact rfl
  simp +contextual -implicitDefEqProofs only [go_sem, eI, eB, ↓reduceIte, Nat.reduceEqDiff, Nat.reduceAdd, Nat.reduceLeDiff, Nat.reduceMul, Nat.reduceBEq, Nat.reduceBneDiff, Nat.reduceLT, Nat.reduceSub, decide_true, decide_false, and_self, true_and, and_true, false_and, and_false, not_true_eq_false, not_false_eq_true, false_implies, true_implies, implies_true, ge_iff_le, Bool.false_eq_true, List.cons_append, List.nil_append]

def k_inRange (f1 : Nat) : RC :=
 (.seq
  (.reg false [⟨none, .mv 4 (.c (.sc (.bool false)))⟩])
  ((.seq
   ((.seq
    (.reg false [⟨none, .mv 7 (.t 0)⟩,
      ⟨none, .len 8 (.t 7)⟩,
      ⟨none, .mv 9 (.c (.sc (.int .i64 0)))⟩])
    (.blk 0
     (.loop
      ((.seq
       (.reg false [⟨none, .bin 10 .lss (.t 9) (.t 8)⟩])
       ((.seq
        (.cond (.t 10)
         (.skip)
         (.exit 0))
        ((.seq
         (.blk 1
          ((.seq
           (.reg false [⟨none, .ia 11 1 (.t 7) (.t 9)⟩,
             ⟨none, .ld 12 false 1 (.t 11)⟩,
             ⟨none, .mv 6 (.t 12)⟩])
           ((.seq
            (.reg false [⟨none, .mv 13 (.t 6)⟩,
              ⟨none, .mv 14 (.t 1)⟩,
              ⟨none, .bin 15 .sub (.t 14) (.c (.sc (.int .i64 1)))⟩,
              ⟨none, .call (some 16) f1 [(.t 13), (.c (.sc (.int .i64 0))), (.t 15)]⟩,
              ⟨none, .un 17 .not (.t 16)⟩])
            (.cond (.t 17)
             ((.seq
              (.reg false [⟨none, .mv 4 (.c (.sc (.bool false)))⟩])
              (.ret)))
             (.skip)))))))
         (.reg false [⟨none, .bin 18 .add (.t 9) (.c (.sc (.int .i64 1)))⟩,
           ⟨none, .mv 9 (.t 18)⟩])))))))))))
   ((.seq
    (.reg false [⟨none, .mv 4 (.c (.sc (.bool true)))⟩])
    (.ret))))))
def K_inRange (P : Program) (f : Nat) : Prop := ∀ (s : SL Int) (n : Int) (h1 : 0 ≤ n) (h2 : n ≤ 1048576), AF P f [eS 1 eI s, eI n] (.own (eB (allIn 0 (n - 1) s.2)))
theorem a_inRange {P : Program} (hm : P.follows .mixedOrders = true) {g f1 : Nat} (hr : resF P g = some (19, k_inRange f1, [.t 4])) (hc1 : K_within P f1) : K_inRange P g := by
  intro s n h1 h2
  refine af_of_res hr hm rfl fun hb => ?_
  have hl := bd_ls hb.1
  simp only [List.length_map] at hl
  simp +contextual -implicitDefEqProofs only [k_inRange, eS, List.length_map, go_sem, eI, eB, ↓reduceIte, Nat.reduceEqDiff, Nat.reduceAdd, Nat.reduceLeDiff, Nat.reduceMul, Nat.reduceBEq, Nat.reduceBneDiff, Nat.reduceLT, Nat.reduceSub, decide_true, decide_false, and_self, true_and, and_true, false_and, and_false, not_true_eq_false, not_false_eq_true, false_implies, true_implies, implies_true, ge_iff_le, Bool.false_eq_true, List.cons_append, List.nil_append]
  refine vc_on (α := Nat) [4, 6, 9, 10, 11, 12, 13, 14, 15, 16, 17, 18] (fun i => [(9, .im none (.sc (.int .i64 i)))]) (fun i => i ≤ s.2.length ∧ (s.2.take i).all ((fun x => isIn x 0 (n - 1))) = true) (fun i => s.2.length - i) 0 (by simp only [subEnv, go_sem, ↓reduceIte, Nat.reduceEqDiff, List.length_map]; simp) ⟨Nat.zero_le _, rfl⟩ ?_
  rintro i ⟨j1, j2⟩
  by_cases hi : i < s.2.length
  · have e1 := at_map (f := eI) hi
    simp +contextual -implicitDefEqProofs only [e1, hi, Int.ofNat_lt, List.length_map, Int.natCast_nonneg, go_sem, eI, eB, ↓reduceIte, Nat.reduceEqDiff, Nat.reduceAdd, Nat.reduceLeDiff, Nat.reduceMul, Nat.reduceBEq, Nat.reduceBneDiff, Nat.reduceLT, Nat.reduceSub, decide_true, decide_false, and_self, true_and, and_true, false_and, and_false, not_true_eq_false, not_false_eq_true, false_implies, true_implies, implies_true, ge_iff_le, Bool.false_eq_true, List.cons_append, List.nil_append]
    rw [wrap_i64 (by omega) (by omega)]
    refine callQ_self ?_ (hc1 s.2[i] 0 (n - 1)) ?_
    · exact rfl
    cases hx : isIn s.2[i] 0 (n - 1)
    · simp +contextual -implicitDefEqProofs only [bne, Bool.not_true, Bool.not_false, Bool.true_and, Bool.false_and, Bool.and_true, Bool.and_false, Bool.true_or, Bool.false_or, Bool.or_true, Bool.or_false, go_sem, eI, eB, ↓reduceIte, Nat.reduceEqDiff, Nat.reduceAdd, Nat.reduceLeDiff, Nat.reduceMul, Nat.reduceBEq, Nat.reduceBneDiff, Nat.reduceLT, Nat.reduceSub, decide_true, decide_false, and_self, true_and, and_true, false_and, and_false, not_true_eq_false, not_false_eq_true, false_implies, true_implies, implies_true, ge_iff_le, Bool.false_eq_true, List.cons_append, List.nil_append]
      exact D.Le.sc_eq (by simp only [allIn]; rw [all_fail hi hx])
    · simp +contextual -implicitDefEqProofs only [bne, Bool.not_true, Bool.not_false, Bool.true_and, Bool.false_and, Bool.and_true, Bool.and_false, Bool.true_or, Bool.false_or, Bool.or_true, Bool.or_false, go_sem, eI, eB, ↓reduceIte, Nat.reduceEqDiff, Nat.reduceAdd, Nat.reduceLeDiff, Nat.reduceMul, Nat.reduceBEq, Nat.reduceBneDiff, Nat.reduceLT, Nat.reduceSub, decide_true, decide_false, and_self, true_and, and_true, false_and, and_false, not_true_eq_false, not_false_eq_true, false_implies, true_implies, implies_true, ge_iff_le, Bool.false_eq_true, List.cons_append, List.nil_append]
      rw [wrap_i64 (by omega) (by omega)]
      exact ⟨i + 1, ⟨by omega, all_take_succ hi j2 hx⟩, by omega, Ent.env (by simp only [subEnv, go_sem, ↓reduceIte, Nat.reduceEqDiff, List.length_map]; simp)⟩
  · simp +contextual -implicitDefEqProofs only [hi, Int.ofNat_lt, List.length_map, Int.natCast_nonneg, go_sem, eI, eB, ↓reduceIte, Nat.reduceEqDiff, Nat.reduceAdd, Nat.reduceLeDiff, Nat.reduceMul, Nat.reduceBEq, Nat.reduceBneDiff, Nat.reduceLT, Nat.reduceSub, decide_true, decide_false, and_self, true_and, and_true, false_and, and_false, not_true_eq_false, not_false_eq_true, false_implies, true_implies, implies_true, ge_iff_le, Bool.false_eq_true, List.cons_append, List.nil_append]
    exact D.Le.sc_eq (by simp only [allIn]; rw [all_of_take hi j2])

def k_isTrace (f1 f2 : Nat) : RC :=
 (.seq
  (.reg false [⟨none, .box 2 2 (.t 0)⟩,
    ⟨none, .box 3 2 (.t 1)⟩,
    ⟨none, .mv 4 (.c (.sc (.bool false)))⟩])
  ((.seq
   (.reg true [⟨none, .fa 5 0 (.t 3)⟩,
     ⟨none, .ld 6 false 1 (.t 5)⟩,
     ⟨none, .len 7 (.t 6)⟩,
     ⟨none, .fa 8 1 (.t 3)⟩,
     ⟨none, .ld 9 false 1 (.t 8)⟩,
     ⟨none, .len 10 (.t 9)⟩,
     ⟨none, .bin 11 .add (.t 10) (.c (.sc (.int .i64 1)))⟩,
     ⟨none, .bin 12 .eql (.t 7) (.t 11)⟩,
     ⟨none, .mv 13 (.t 12)⟩,
     ⟨some (13, true), .fa 14 0 (.t 3)⟩,
     ⟨some (13, true), .ld 15 false 1 (.t 14)⟩,
     ⟨some (13, true), .ld 16 true 2 (.t 2)⟩,
     ⟨some (13, true), .call (some 17) f1 [(.t 16)]⟩,
     ⟨some (13, true), .call (some 18) f2 [(.t 15), (.t 17)]⟩,
     ⟨none, .pick 19 (.t 13) (.t 18) (.c (.sc (.bool false)))⟩,
     ⟨none, .mv 20 (.t 19)⟩,
     ⟨some (20, true), .fa 21 1 (.t 3)⟩,
     ⟨some (20, true), .ld 22 false 1 (.t 21)⟩,
     ⟨some (20, true), .fa 23 1 (.t 2)⟩,
     ⟨some (20, true), .ld 24 false 1 (.t 23)⟩,
     ⟨some (20, true), .call (some 25) f2 [(.t 22), (.t 24)]⟩,
     ⟨none, .pick 26 (.t 20) (.t 25) (.c (.sc (.bool false)))⟩,
     ⟨none, .mv 4 (.t 26)⟩])
   (.ret))))
def K_isTrace (P : Program) (f : Nat) : Prop := ∀ (g : Int × Int) (v : Wo) (h : okG g = true) (h10 : v.2.2.length ≤ 1048576), AF P f [eG g, eWo v] (.own (eB (traceOk g v)))
theorem a_isTrace {P : Program} (hm : P.follows .mixedOrders = true) {g f1 f2 : Nat} (hr : resF P g = some (27, k_isTrace f1 f2, [.t 4])) (hc1 : K_atomsIn P f1) (hc2 : K_inRange P f2) : K_isTrace P g := by
  intro g v h h10
  refine af_of_res hr hm rfl fun hb => ?_
  have hb1 := hb.2.1
  simp only [eWo, eS, D.bd, D.bdL, List.length_map, maxEl] at hb1
  have hl := hb1.1.1
  have hl2 := hb1.2.1.1
  have hs : v.2.2.length ≤ 9223372036854775806 ∨ v.2.2.length = 9223372036854775807 := by omega
  simp +contextual -implicitDefEqProofs only [k_isTrace, eG, eWo, eS, List.length_map, go_sem, eI, eB, ↓reduceIte, Nat.reduceEqDiff, Nat.reduceAdd, Nat.reduceLeDiff, Nat.reduceMul, Nat.reduceBEq, Nat.reduceBneDiff, Nat.reduceLT, Nat.reduceSub, decide_true, decide_false, and_self, true_and, and_true, false_and, and_false, not_true_eq_false, not_false_eq_true, false_implies, true_implies, implies_true, ge_iff_le, Bool.false_eq_true, List.cons_append, List.nil_append]
  have hg := okG_iff h
  have hp := atoms_le h
  rw [wrap_i64 (by omega) (by omega)]
  cases h1 : lenIs (v.2.2.length + 1) v.1
  · have h1' := h1
    simp only [lenIs] at h1'
    simp +contextual -implicitDefEqProofs only [traceOk, h1, h1', bne, Bool.not_true, Bool.not_false, Bool.true_and, Bool.false_and, Bool.and_true, Bool.and_false, Bool.true_or, Bool.false_or, Bool.or_true, Bool.or_false, go_sem, eI, eB, ↓reduceIte, Nat.reduceEqDiff, Nat.reduceAdd, Nat.reduceLeDiff, Nat.reduceMul, Nat.reduceBEq, Nat.reduceBneDiff, Nat.reduceLT, Nat.reduceSub, decide_true, decide_false, and_self, true_and, and_true, false_and, and_false, not_true_eq_false, not_false_eq_true, false_implies, true_implies, implies_true, ge_iff_le, Bool.false_eq_true, List.cons_append, List.nil_append]
  have h1' := h1
  simp only [lenIs] at h1'
  simp +contextual -implicitDefEqProofs only [traceOk, h1, h1', bne, Bool.not_true, Bool.not_false, Bool.true_and, Bool.false_and, Bool.and_true, Bool.and_false, Bool.true_or, Bool.false_or, Bool.or_true, Bool.or_false, go_sem, eI, eB, ↓reduceIte, Nat.reduceEqDiff, Nat.reduceAdd, Nat.reduceLeDiff, Nat.reduceMul, Nat.reduceBEq, Nat.reduceBneDiff, Nat.reduceLT, Nat.reduceSub, decide_true, decide_false, and_self, true_and, and_true, false_and, and_false, not_true_eq_false, not_false_eq_true, false_implies, true_implies, implies_true, ge_iff_le, Bool.false_eq_true, List.cons_append, List.nil_append]
  refine callQ_self ?_ (hc1 g h) ?_
  · exact rfl
  simp +contextual -implicitDefEqProofs only [eS, bne, Bool.not_true, Bool.not_false, Bool.true_and, Bool.false_and, Bool.and_true, Bool.and_false, Bool.true_or, Bool.false_or, Bool.or_true, Bool.or_false, go_sem, eI, eB, ↓reduceIte, Nat.reduceEqDiff, Nat.reduceAdd, Nat.reduceLeDiff, Nat.reduceMul, Nat.reduceBEq, Nat.reduceBneDiff, Nat.reduceLT, Nat.reduceSub, decide_true, decide_false, and_self, true_and, and_true, false_and, and_false, not_true_eq_false, not_false_eq_true, false_implies, true_implies, implies_true, ge_iff_le, Bool.false_eq_true, List.cons_append, List.nil_append]
  refine callQ_self ?_ (hc2 v.1 (atomsOf g) (by omega) (by omega)) ?_
  · exact rfl
  cases h2 : allIn 0 (atomsOf g - 1) v.1.2
  · simp +contextual -implicitDefEqProofs only [h2, eS, bne, Bool.not_true, Bool.not_false, Bool.true_and, Bool.false_and, Bool.and_true, Bool.and_false, Bool.true_or, Bool.false_or, Bool.or_true, Bool.or_false, go_sem, eI, eB, ↓reduceIte, Nat.reduceEqDiff, Nat.reduceAdd, Nat.reduceLeDiff, Nat.reduceMul, Nat.reduceBEq, Nat.reduceBneDiff, Nat.reduceLT, Nat.reduceSub, decide_true, decide_false, and_self, true_and, and_true, false_and, and_false, not_true_eq_false, not_false_eq_true, false_implies, true_implies, implies_true, ge_iff_le, Bool.false_eq_true, List.cons_append, List.nil_append]
  simp +contextual -implicitDefEqProofs only [h2, eS, bne, Bool.not_true, Bool.not_false, Bool.true_and, Bool.false_and, Bool.and_true, Bool.and_false, Bool.true_or, Bool.false_or, Bool.or_true, Bool.or_false, go_sem, eI, eB, ↓reduceIte, Nat.reduceEqDiff, Nat.reduceAdd, Nat.reduceLeDiff, Nat.reduceMul, Nat.reduceBEq, Nat.reduceBneDiff, Nat.reduceLT, Nat.reduceSub, decide_true, decide_false, and_self, true_and, and_true, false_and, and_false, not_true_eq_false, not_false_eq_true, false_implies, true_implies, implies_true, ge_iff_le, Bool.false_eq_true, List.cons_append, List.nil_append]
  refine callQ_self ?_ (hc2 v.2 g.2 (by omega) (by omega)) ?_
  · exact rfl
  simp +contextual -implicitDefEqProofs only [h2, eS, bne, Bool.not_true, Bool.not_false, Bool.true_and, Bool.false_and, Bool.and_true, Bool.and_false, Bool.true_or, Bool.false_or, Bool.or_true, Bool.or_false, go_sem, eI, eB, ↓reduceIte, Nat.reduceEqDiff, Nat.reduceAdd, Nat.reduceLeDiff, Nat.reduceMul, Nat.reduceBEq, Nat.reduceBneDiff, Nat.reduceLT, Nat.reduceSub, decide_true, decide_false, and_self, true_and, and_true, false_and, and_false, not_true_eq_false, not_false_eq_true, false_implies, true_implies, implies_true, ge_iff_le, Bool.false_eq_true, List.cons_append, List.nil_append]

def k_isWord (f1 : Nat) : RC :=
 (.seq
  (.reg false [⟨none, .box 2 2 (.t 0)⟩,
    ⟨none, .box 3 2 (.t 1)⟩,
    ⟨none, .mv 4 (.c (.sc (.bool false)))⟩])
  ((.seq
   (.reg false [⟨none, .fa 5 1 (.t 3)⟩,
     ⟨none, .ld 6 false 1 (.t 5)⟩,
     ⟨none, .len 7 (.t 6)⟩,
     ⟨none, .bin 8 .leq (.t 7) (.c (.sc (.int .i64 10)))⟩,
     ⟨none, .mv 9 (.t 8)⟩,
     ⟨some (9, true), .ld 10 true 2 (.t 2)⟩,
     ⟨some (9, true), .ld 11 true 2 (.t 3)⟩,
     ⟨some (9, true), .call (some 12) f1 [(.t 10), (.t 11)]⟩,
     ⟨none, .pick 13 (.t 9) (.t 12) (.c (.sc (.bool false)))⟩,
     ⟨none, .mv 4 (.t 13)⟩])
   (.ret))))
def K_isWord (P : Program) (f : Nat) : Prop := ∀ (g : Int × Int) (v : Wo) (h : okG g = true), AF P f [eG g, eWo v] (.own (eB (okWo g v)))
theorem a_isWord {P : Program} (hm : P.follows .mixedOrders = true) {g f1 : Nat} (hr : resF P g = some (14, k_isWord f1, [.t 4])) (hc1 : K_isTrace P f1) : K_isWord P g := by
  intro g v h
  refine af_of_res hr hm rfl fun hb => ?_
  by_cases h1 : (v.2.2.length : Int) ≤ 10
  · have h10 : v.2.2.length ≤ 1048576 := by omega
    simp +contextual -implicitDefEqProofs only [k_isWord, eG, eWo, eS, List.length_map, okWo, h1, bne, Bool.not_true, Bool.not_false, Bool.true_and, Bool.false_and, Bool.and_true, Bool.and_false, Bool.true_or, Bool.false_or, Bool.or_true, Bool.or_false, go_sem, eI, eB, ↓reduceIte, Nat.reduceEqDiff, Nat.reduceAdd, Nat.reduceLeDiff, Nat.reduceMul, Nat.reduceBEq, Nat.reduceBneDiff, Nat.reduceLT, Nat.reduceSub, decide_true, decide_false, and_self, true_and, and_true, false_and, and_false, not_true_eq_false, not_false_eq_true, false_implies, true_implies, implies_true, ge_iff_le, Bool.false_eq_true, List.cons_append, List.nil_append]
    refine callQ_self ?_ (hc1 g v h h10) ?_
    · exact rfl
    simp +contextual -implicitDefEqProofs only [h1, bne, Bool.not_true, Bool.not_false, Bool.true_and, Bool.false_and, Bool.and_true, Bool.and_false, Bool.true_or, Bool.false_or, Bool.or_true, Bool.or_false, go_sem, eI, eB, ↓reduceIte, Nat.reduceEqDiff, Nat.reduceAdd, Nat.reduceLeDiff, Nat.reduceMul, Nat.reduceBEq, Nat.reduceBneDiff, Nat.reduceLT, Nat.reduceSub, decide_true, decide_false, and_self, true_and, and_true, false_and, and_false, not_true_eq_false, not_false_eq_true, false_implies, true_implies, implies_true, ge_iff_le, Bool.false_eq_true, List.cons_append, List.nil_append]
  · simp +contextual -implicitDefEqProofs only [k_isWord, eG, eWo, eS, List.length_map, okWo, h1, bne, Bool.not_true, Bool.not_false, Bool.true_and, Bool.false_and, Bool.and_true, Bool.and_false, Bool.true_or, Bool.false_or, Bool.or_true, Bool.or_false, go_sem, eI, eB, ↓reduceIte, Nat.reduceEqDiff, Nat.reduceAdd, Nat.reduceLeDiff, Nat.reduceMul, Nat.reduceBEq, Nat.reduceBneDiff, Nat.reduceLT, Nat.reduceSub, decide_true, decide_false, and_self, true_and, and_true, false_and, and_false, not_true_eq_false, not_false_eq_true, false_implies, true_implies, implies_true, ge_iff_le, Bool.false_eq_true, List.cons_append, List.nil_append]

def k_isWorld (f1 f2 f3 : Nat) : RC :=
 (.seq
  (.reg false [⟨none, .box 2 2 (.t 0)⟩,
    ⟨none, .box 3 2 (.t 1)⟩,
    ⟨none, .mv 4 (.c (.sc (.bool false)))⟩])
  ((.seq
   (.reg false [⟨none, .fa 10 0 (.t 3)⟩,
     ⟨none, .ld 11 false 1 (.t 10)⟩,
     ⟨none, .len 12 (.t 11)⟩,
     ⟨none, .mv 5 (.t 12)⟩])
   ((.seq
    ((.seq
     (.reg true [⟨none, .mv 13 (.t 5)⟩,
       ⟨none, .call (some 14) f1 [(.t 13), (.c (.sc (.int .i64 1))), (.c (.sc (.int .i64 12)))]⟩,
       ⟨none, .un 15 .not (.t 14)⟩,
       ⟨none, .mv 16 (.t 15)⟩,
       ⟨some (16, false), .fa 17 0 (.t 3)⟩,
       ⟨some (16, false), .ld 18 false 1 (.t 17)⟩,
       ⟨some (16, false), .ld 19 true 2 (.t 2)⟩,
       ⟨some (16, false), .call (some 20) f2 [(.t 19)]⟩,
       ⟨some (16, false), .call (some 21) f3 [(.t 18), (.t 20)]⟩,
       ⟨some (16, false), .un 22 .not (.t 21)⟩,
       ⟨none, .pick 23 (.t 16) (.c (.sc (.bool true))) (.t 22)⟩,
       ⟨none, .mv 24 (.t 23)⟩,
       ⟨some (24, false), .fa 25 1 (.t 3)⟩,
       ⟨some (24, false), .ld 26 false 1 (.t 25)⟩,
       ⟨some (24, false), .len 27 (.t 26)⟩,
       ⟨some (24, false), .fa 28 1 (.t 2)⟩,
       ⟨some (24, false), .ld 29 false 1 (.t 28)⟩,
       ⟨some (24, false), .bin 30 .neq (.t 27) (.t 29)⟩,
       ⟨none, .pick 31 (.t 24) (.c (.sc (.bool true))) (.t 30)⟩])
     (.cond (.t 31)
      ((.seq
       (.reg false [⟨none, .mv 4 (.c (.sc (.bool false)))⟩])
       (.ret)))
      (.skip))))
    ((.seq
     ((.seq
      (.reg false [⟨none, .fa 32 1 (.t 3)⟩,
        ⟨none, .ld 33 false 1 (.t 32)⟩,
        ⟨none, .len 34 (.t 33)⟩,
        ⟨none, .mv 35 (.c (.sc (.int .i64 0)))⟩])
      (.blk 0
       (.loop
        ((.seq
         (.reg false [⟨none, .bin 36 .lss (.t 35) (.t 34)⟩])
         ((.seq
          (.cond (.t 36)
           (.skip)
           (.exit 0))
          ((.seq
           (.blk 1
            ((.seq
             (.reg false [⟨none, .ia 37 1 (.t 33) (.t 35)⟩,
               ⟨none, .ld 38 false 1 (.t 37)⟩,
               ⟨none, .mv 7 (.t 38)⟩])
             ((.seq
              ((.seq
               (.reg false [⟨none, .mv 39 (.t 7)⟩,
                 ⟨none, .len 40 (.t 39)⟩,
                 ⟨none, .mv 41 (.t 5)⟩,
                 ⟨none, .bin 42 .neq (.t 40) (.t 41)⟩])
               (.cond (.t 42)
                ((.seq
                 (.reg false [⟨none, .mv 4 (.c (.sc (.bool false)))⟩])
                 (.ret)))
                (.skip))))
              ((.seq
               (.reg false [⟨none, .mv 43 (.t 7)⟩,
                 ⟨none, .len 44 (.t 43)⟩,
                 ⟨none, .mv 45 (.c (.sc (.int .i64 0)))⟩])
               (.blk 2
                (.loop
                 ((.seq
                  (.reg false [⟨none, .bin 46 .lss (.t 45) (.t 44)⟩])
                  ((.seq
                   (.cond (.t 46)
                    (.skip)
                    (.exit 2))
                   ((.seq
                    (.blk 3
                     ((.seq
                      (.reg false [⟨none, .ia 47 1 (.t 43) (.t 45)⟩,
                        ⟨none, .ld 48 false 1 (.t 47)⟩,
                        ⟨none, .mv 9 (.t 48)⟩])
                      ((.seq
                       (.reg false [⟨none, .mv 49 (.t 9)⟩,
                         ⟨none, .mv 50 (.t 5)⟩,
                         ⟨none, .bin 51 .sub (.t 50) (.c (.sc (.int .i64 1)))⟩,
                         ⟨none, .call (some 52) f1 [(.t 49), (.c (.sc (.int .i64 (-1)))), (.t 51)]⟩,
                         ⟨none, .un 53 .not (.t 52)⟩])
                       (.cond (.t 53)
                        ((.seq
                         (.reg false [⟨none, .mv 4 (.c (.sc (.bool false)))⟩])
                         (.ret)))
                        (.skip)))))))
                    (.reg false [⟨none, .bin 54 .add (.t 45) (.c (.sc (.int .i64 1)))⟩,
                      ⟨none, .mv 45 (.t 54)⟩]))))))))))))))))
           (.reg false [⟨none, .bin 55 .add (.t 35) (.c (.sc (.int .i64 1)))⟩,
             ⟨none, .mv 35 (.t 55)⟩])))))))))))
     ((.seq
      (.reg false [⟨none, .mv 4 (.c (.sc (.bool true)))⟩])
      (.ret))))))))))
def K_isWorld (P : Program) (f : Nat) : Prop := ∀ (g : Int × Int) (w : Wd) (h : okG g = true), AF P f [eG g, eW w] (.own (eB (okW g w)))
theorem a_isWorld {P : Program} (hm : P.follows .mixedOrders = true) {g f1 f2 f3 : Nat} (hr : resF P g = some (56, k_isWorld f1 f2 f3, [.t 4])) (hc1 : K_within P f1) (hc2 : K_atomsIn P f2) (hc3 : K_inRange P f3) : K_isWorld P g := by
  intro g w h
  refine af_of_res hr hm rfl fun hb => ?_
  have hb2 := hb.2.1
  simp only [eW, eS, D.bd, D.bdL, List.length_map] at hb2
  have hg := okG_iff h
  have hp := atoms_le h
  have hl := hb2.1.1
  have hl2 := hb2.2.1.1
  have hl3 := hb2.2.1.2.2
  unfold maxEl at hl hl2
  simp +contextual -implicitDefEqProofs only [k_isWorld, eG, eW, eS, List.length_map, go_sem, eI, eB, ↓reduceIte, Nat.reduceEqDiff, Nat.reduceAdd, Nat.reduceLeDiff, Nat.reduceMul, Nat.reduceBEq, Nat.reduceBneDiff, Nat.reduceLT, Nat.reduceSub, decide_true, decide_false, and_self, true_and, and_true, false_and, and_false, not_true_eq_false, not_false_eq_true, false_implies, true_implies, implies_true, ge_iff_le, Bool.false_eq_true, List.cons_append, List.nil_append]
  refine callQ_self ?_ (hc1 w.1.2.length 1 12) ?_
  · exact rfl
  cases h1 : isIn w.1.2.length 1 12
  · simp +contextual -implicitDefEqProofs only [okW, h1, bne, Bool.not_true, Bool.not_false, Bool.true_and, Bool.false_and, Bool.and_true, Bool.and_false, Bool.true_or, Bool.false_or, Bool.or_true, Bool.or_false, go_sem, eI, eB, ↓reduceIte, Nat.reduceEqDiff, Nat.reduceAdd, Nat.reduceLeDiff, Nat.reduceMul, Nat.reduceBEq, Nat.reduceBneDiff, Nat.reduceLT, Nat.reduceSub, decide_true, decide_false, and_self, true_and, and_true, false_and, and_false, not_true_eq_false, not_false_eq_true, false_implies, true_implies, implies_true, ge_iff_le, Bool.false_eq_true, List.cons_append, List.nil_append]
  simp +contextual -implicitDefEqProofs only [h1, eS, bne, Bool.not_true, Bool.not_false, Bool.true_and, Bool.false_and, Bool.and_true, Bool.and_false, Bool.true_or, Bool.false_or, Bool.or_true, Bool.or_false, go_sem, eI, eB, ↓reduceIte, Nat.reduceEqDiff, Nat.reduceAdd, Nat.reduceLeDiff, Nat.reduceMul, Nat.reduceBEq, Nat.reduceBneDiff, Nat.reduceLT, Nat.reduceSub, decide_true, decide_false, and_self, true_and, and_true, false_and, and_false, not_true_eq_false, not_false_eq_true, false_implies, true_implies, implies_true, ge_iff_le, Bool.false_eq_true, List.cons_append, List.nil_append]
  refine callQ_self ?_ (hc2 g h) ?_
  · exact rfl
  simp +contextual -implicitDefEqProofs only [eS, bne, Bool.not_true, Bool.not_false, Bool.true_and, Bool.false_and, Bool.and_true, Bool.and_false, Bool.true_or, Bool.false_or, Bool.or_true, Bool.or_false, go_sem, eI, eB, ↓reduceIte, Nat.reduceEqDiff, Nat.reduceAdd, Nat.reduceLeDiff, Nat.reduceMul, Nat.reduceBEq, Nat.reduceBneDiff, Nat.reduceLT, Nat.reduceSub, decide_true, decide_false, and_self, true_and, and_true, false_and, and_false, not_true_eq_false, not_false_eq_true, false_implies, true_implies, implies_true, ge_iff_le, Bool.false_eq_true, List.cons_append, List.nil_append]
  refine callQ_self ?_ (hc3 w.1 (atomsOf g) (by omega) (by omega)) ?_
  · exact rfl
  cases h2 : allIn 0 (atomsOf g - 1) w.1.2
  · simp +contextual -implicitDefEqProofs only [okW, h1, h2, eS, bne, Bool.not_true, Bool.not_false, Bool.true_and, Bool.false_and, Bool.and_true, Bool.and_false, Bool.true_or, Bool.false_or, Bool.or_true, Bool.or_false, go_sem, eI, eB, ↓reduceIte, Nat.reduceEqDiff, Nat.reduceAdd, Nat.reduceLeDiff, Nat.reduceMul, Nat.reduceBEq, Nat.reduceBneDiff, Nat.reduceLT, Nat.reduceSub, decide_true, decide_false, and_self, true_and, and_true, false_and, and_false, not_true_eq_false, not_false_eq_true, false_implies, true_implies, implies_true, ge_iff_le, Bool.false_eq_true, List.cons_append, List.nil_append]
  cases h3 : lenIs g.2 w.2
  · have h3' := h3
    simp only [lenIs] at h3'
    simp +contextual -implicitDefEqProofs only [okW, h1, h2, h3, h3', eS, List.length_map, bne, Bool.not_true, Bool.not_false, Bool.true_and, Bool.false_and, Bool.and_true, Bool.and_false, Bool.true_or, Bool.false_or, Bool.or_true, Bool.or_false, go_sem, eI, eB, ↓reduceIte, Nat.reduceEqDiff, Nat.reduceAdd, Nat.reduceLeDiff, Nat.reduceMul, Nat.reduceBEq, Nat.reduceBneDiff, Nat.reduceLT, Nat.reduceSub, decide_true, decide_false, and_self, true_and, and_true, false_and, and_false, not_true_eq_false, not_false_eq_true, false_implies, true_implies, implies_true, ge_iff_le, Bool.false_eq_true, List.cons_append, List.nil_append]
  have h3' := h3
  simp only [lenIs] at h3'
  have hn : (w.1.2.length : Int) ≤ 12 := by
    simp [isIn] at h1
    omega
  simp +contextual -implicitDefEqProofs only [h2, h3', eS, List.length_map, bne, Bool.not_true, Bool.not_false, Bool.true_and, Bool.false_and, Bool.and_true, Bool.and_false, Bool.true_or, Bool.false_or, Bool.or_true, Bool.or_false, go_sem, eI, eB, ↓reduceIte, Nat.reduceEqDiff, Nat.reduceAdd, Nat.reduceLeDiff, Nat.reduceMul, Nat.reduceBEq, Nat.reduceBneDiff, Nat.reduceLT, Nat.reduceSub, decide_true, decide_false, and_self, true_and, and_true, false_and, and_false, not_true_eq_false, not_false_eq_true, false_implies, true_implies, implies_true, ge_iff_le, Bool.false_eq_true, List.cons_append, List.nil_append]
  refine vc_on (α := Nat) [4, 7, 9, 35, 36, 37, 38, 39, 40, 41, 42, 43, 44, 45, 46, 47, 48, 49, 50, 51, 52, 53, 54, 55] (fun i => [(35, .im none (.sc (.int .i64 i)))]) (fun i => i ≤ w.2.2.length ∧ (w.2.2.take i).all (rowOk w.1.2.length) = true) (fun i => w.2.2.length - i) 0 (by simp only [subEnv, go_sem, ↓reduceIte, Nat.reduceEqDiff, List.length_map]; simp) ⟨Nat.zero_le _, rfl⟩ ?_
  rintro i ⟨j1, j2⟩
  by_cases hi : i < w.2.2.length
  · have e1 := at_map (f := eS 1 eI) hi
    simp +contextual -implicitDefEqProofs only [eS, e1, hi, Int.ofNat_lt, List.length_map, Int.natCast_nonneg, go_sem, eI, eB, ↓reduceIte, Nat.reduceEqDiff, Nat.reduceAdd, Nat.reduceLeDiff, Nat.reduceMul, Nat.reduceBEq, Nat.reduceBneDiff, Nat.reduceLT, Nat.reduceSub, decide_true, decide_false, and_self, true_and, and_true, false_and, and_false, not_true_eq_false, not_false_eq_true, false_implies, true_implies, implies_true, ge_iff_le, Bool.false_eq_true, List.cons_append, List.nil_append]
    have hli : w.2.2[i].2.length ≤ 9223372036854775807 := by
      have := bd_ls (bdL_mem hl3 _ (List.mem_map_of_mem (List.getElem_mem hi)))
      simpa only [List.length_map] using this
    cases hy : lenIs (w.1.2.length : Int) w.2.2[i]
    · have hy' := hy
      simp only [lenIs] at hy'
      simp +contextual -implicitDefEqProofs only [eS, List.length_map, hy', bne, Bool.not_true, Bool.not_false, Bool.true_and, Bool.false_and, Bool.and_true, Bool.and_false, Bool.true_or, Bool.false_or, Bool.or_true, Bool.or_false, go_sem, eI, eB, ↓reduceIte, Nat.reduceEqDiff, Nat.reduceAdd, Nat.reduceLeDiff, Nat.reduceMul, Nat.reduceBEq, Nat.reduceBneDiff, Nat.reduceLT, Nat.reduceSub, decide_true, decide_false, and_self, true_and, and_true, false_and, and_false, not_true_eq_false, not_false_eq_true, false_implies, true_implies, implies_true, ge_iff_le, Bool.false_eq_true, List.cons_append, List.nil_append]
      have hx : rowOk w.1.2.length w.2.2[i] = false := by simp only [rowOk, hy, Bool.false_and]
      have hr2 := all_fail (p := rowOk w.1.2.length) hi hx
      exact D.Le.sc_eq (by simp only [okW, h1, h2, h3, hr2, Bool.and_false])
    have hy' := hy
    simp only [lenIs] at hy'
    simp +contextual -implicitDefEqProofs only [eS, List.length_map, hy', bne, Bool.not_true, Bool.not_false, Bool.true_and, Bool.false_and, Bool.and_true, Bool.and_false, Bool.true_or, Bool.false_or, Bool.or_true, Bool.or_false, go_sem, eI, eB, ↓reduceIte, Nat.reduceEqDiff, Nat.reduceAdd, Nat.reduceLeDiff, Nat.reduceMul, Nat.reduceBEq, Nat.reduceBneDiff, Nat.reduceLT, Nat.reduceSub, decide_true, decide_false, and_self, true_and, and_true, false_and, and_false, not_true_eq_false, not_false_eq_true, false_implies, true_implies, implies_true, ge_iff_le, Bool.false_eq_true, List.cons_append, List.nil_append]
    refine vc_on (α := Nat) [4, 9, 45, 46, 47, 48, 49, 50, 51, 52, 53, 54] (fun k => [(45, .im none (.sc (.int .i64 k)))]) (fun k => k ≤ w.2.2[i].2.length ∧ (w.2.2[i].2.take k).all ((fun k => isIn k (-1) ((w.1.2.length : Int) - 1))) = true) (fun k => w.2.2[i].2.length - k) 0 (by simp only [subEnv, go_sem, ↓reduceIte, Nat.reduceEqDiff, List.length_map]; simp) ⟨Nat.zero_le _, rfl⟩ ?_
    rintro k ⟨k1, k2⟩
    by_cases hk : k < w.2.2[i].2.length
    · have e2 := at_map (f := eI) hk
      simp +contextual -implicitDefEqProofs only [eS, e2, hk, Int.ofNat_lt, List.length_map, Int.natCast_nonneg, go_sem, eI, eB, ↓reduceIte, Nat.reduceEqDiff, Nat.reduceAdd, Nat.reduceLeDiff, Nat.reduceMul, Nat.reduceBEq, Nat.reduceBneDiff, Nat.reduceLT, Nat.reduceSub, decide_true, decide_false, and_self, true_and, and_true, false_and, and_false, not_true_eq_false, not_false_eq_true, false_implies, true_implies, implies_true, ge_iff_le, Bool.false_eq_true, List.cons_append, List.nil_append]
      rw [wrap_i64 (by omega) (by omega)]
      refine callQ_self ?_ (hc1 w.2.2[i].2[k] (-1) (w.1.2.length - 1)) ?_
      · exact rfl
      cases hz : isIn w.2.2[i].2[k] (-1) ((w.1.2.length : Int) - 1)
      · simp +contextual -implicitDefEqProofs only [bne, Bool.not_true, Bool.not_false, Bool.true_and, Bool.false_and, Bool.and_true, Bool.and_false, Bool.true_or, Bool.false_or, Bool.or_true, Bool.or_false, go_sem, eI, eB, ↓reduceIte, Nat.reduceEqDiff, Nat.reduceAdd, Nat.reduceLeDiff, Nat.reduceMul, Nat.reduceBEq, Nat.reduceBneDiff, Nat.reduceLT, Nat.reduceSub, decide_true, decide_false, and_self, true_and, and_true, false_and, and_false, not_true_eq_false, not_false_eq_true, false_implies, true_implies, implies_true, ge_iff_le, Bool.false_eq_true, List.cons_append, List.nil_append]
        have hx : rowOk w.1.2.length w.2.2[i] = false := by simp only [rowOk, hy, allIn]; rw [all_fail hk hz]; rfl
        have hr2 := all_fail (p := rowOk w.1.2.length) hi hx
        exact D.Le.sc_eq (by simp only [okW, h1, h2, h3, hr2, Bool.and_false])
      · simp +contextual -implicitDefEqProofs only [bne, Bool.not_true, Bool.not_false, Bool.true_and, Bool.false_and, Bool.and_true, Bool.and_false, Bool.true_or, Bool.false_or, Bool.or_true, Bool.or_false, go_sem, eI, eB, ↓reduceIte, Nat.reduceEqDiff, Nat.reduceAdd, Nat.reduceLeDiff, Nat.reduceMul, Nat.reduceBEq, Nat.reduceBneDiff, Nat.reduceLT, Nat.reduceSub, decide_true, decide_false, and_self, true_and, and_true, false_and, and_false, not_true_eq_false, not_false_eq_true, false_implies, true_implies, implies_true, ge_iff_le, Bool.false_eq_true, List.cons_append, List.nil_append]
        rw [wrap_i64 (by omega) (by omega)]
        exact ⟨k + 1, ⟨by omega, all_take_succ hk k2 hz⟩, by omega, Ent.env (by simp only [subEnv, go_sem, ↓reduceIte, Nat.reduceEqDiff, List.length_map]; simp)⟩
    · simp +contextual -implicitDefEqProofs only [eS, hk, Int.ofNat_lt, List.length_map, Int.natCast_nonneg, go_sem, eI, eB, ↓reduceIte, Nat.reduceEqDiff, Nat.reduceAdd, Nat.reduceLeDiff, Nat.reduceMul, Nat.reduceBEq, Nat.reduceBneDiff, Nat.reduceLT, Nat.reduceSub, decide_true, decide_false, and_self, true_and, and_true, false_and, and_false, not_true_eq_false, not_false_eq_true, false_implies, true_implies, implies_true, ge_iff_le, Bool.false_eq_true, List.cons_append, List.nil_append]
      have hx : rowOk w.1.2.length w.2.2[i] = true := by simp only [rowOk, hy, allIn]; rw [all_of_take hk k2]; rfl
      rw [wrap_i64 (by omega) (by omega)]
      exact ⟨i + 1, ⟨by omega, all_take_succ hi j2 hx⟩, by omega, Ent.env (by simp only [subEnv, go_sem, ↓reduceIte, Nat.reduceEqDiff, List.length_map]; simp)⟩
  · simp +contextual -implicitDefEqProofs only [eS, hi, Int.ofNat_lt, List.length_map, Int.natCast_nonneg, go_sem, eI, eB, ↓reduceIte, Nat.reduceEqDiff, Nat.reduceAdd, Nat.reduceLeDiff, Nat.reduceMul, Nat.reduceBEq, Nat.reduceBneDiff, Nat.reduceLT, Nat.reduceSub, decide_true, decide_false, and_self, true_and, and_true, false_and, and_false, not_true_eq_false, not_false_eq_true, false_implies, true_implies, implies_true, ge_iff_le, Bool.false_eq_true, List.cons_append, List.nil_append]
    have hr2 := all_of_take hi j2
    exact D.Le.sc_eq (by simp only [okW, h1, h2, h3, hr2, Bool.and_self, Bool.and_true])

def k_validWorld (f1 f2 : Nat) : RC :=
 (.seq
  (.reg false [⟨none, .box 2 2 (.t 0)⟩,
    ⟨none, .box 3 2 (.t 1)⟩,
    ⟨none, .mv 4 (.c (.sc (.bool false)))⟩])
  ((.seq
   (.reg false [⟨none, .ld 5 true 2 (.t 2)⟩,
     ⟨none, .call (some 6) f1 [(.t 5)]⟩,
     ⟨none, .mv 7 (.t 6)⟩,
     ⟨some (7, true), .ld 8 true 2 (.t 2)⟩,
     ⟨some (7, true), .ld 9 true 2 (.t 3)⟩,
     ⟨some (7, true), .call (some 10) f2 [(.t 8), (.t 9)]⟩,
     ⟨none, .pick 11 (.t 7) (.t 10) (.c (.sc (.bool false)))⟩,
     ⟨none, .mv 4 (.t 11)⟩])
   (.ret))))
def K_validWorld (P : Program) (f : Nat) : Prop := ∀ (g : Int × Int) (w : Wd), AF P f [eG g, eW w] (.own (eB (okG g && okW g w)))
theorem a_validWorld {P : Program} (hm : P.follows .mixedOrders = true) {g f1 f2 : Nat} (hr : resF P g = some (12, k_validWorld f1 f2, [.t 4])) (hc1 : K_validSig P f1) (hc2 : K_isWorld P f2) : K_validWorld P g := by
  intro g w
  refine af_of_res hr hm rfl fun hb => ?_
  simp +contextual -implicitDefEqProofs only [k_validWorld, eG, eW, eS, go_sem, eI, eB, ↓reduceIte, Nat.reduceEqDiff, Nat.reduceAdd, Nat.reduceLeDiff, Nat.reduceMul, Nat.reduceBEq, Nat.reduceBneDiff, Nat.reduceLT, Nat.reduceSub, decide_true, decide_false, and_self, true_and, and_true, false_and, and_false, not_true_eq_false, not_false_eq_true, false_implies, true_implies, implies_true, ge_iff_le, Bool.false_eq_true, List.cons_append, List.nil_append]
  refine callQ_self ?_ (hc1 g) ?_
  · exact rfl
  cases hg : okG g
  · simp +contextual -implicitDefEqProofs only [hg, bne, Bool.not_true, Bool.not_false, Bool.true_and, Bool.false_and, Bool.and_true, Bool.and_false, Bool.true_or, Bool.false_or, Bool.or_true, Bool.or_false, go_sem, eI, eB, ↓reduceIte, Nat.reduceEqDiff, Nat.reduceAdd, Nat.reduceLeDiff, Nat.reduceMul, Nat.reduceBEq, Nat.reduceBneDiff, Nat.reduceLT, Nat.reduceSub, decide_true, decide_false, and_self, true_and, and_true, false_and, and_false, not_true_eq_false, not_false_eq_true, false_implies, true_implies, implies_true, ge_iff_le, Bool.false_eq_true, List.cons_append, List.nil_append]
  simp +contextual -implicitDefEqProofs only [hg, bne, Bool.not_true, Bool.not_false, Bool.true_and, Bool.false_and, Bool.and_true, Bool.and_false, Bool.true_or, Bool.false_or, Bool.or_true, Bool.or_false, go_sem, eI, eB, ↓reduceIte, Nat.reduceEqDiff, Nat.reduceAdd, Nat.reduceLeDiff, Nat.reduceMul, Nat.reduceBEq, Nat.reduceBneDiff, Nat.reduceLT, Nat.reduceSub, decide_true, decide_false, and_self, true_and, and_true, false_and, and_false, not_true_eq_false, not_false_eq_true, false_implies, true_implies, implies_true, ge_iff_le, Bool.false_eq_true, List.cons_append, List.nil_append]
  refine callQ_self ?_ (hc2 g w hg) ?_
  · exact rfl
  simp +contextual -implicitDefEqProofs only [eS, bne, Bool.not_true, Bool.not_false, Bool.true_and, Bool.false_and, Bool.and_true, Bool.and_false, Bool.true_or, Bool.false_or, Bool.or_true, Bool.or_false, go_sem, eI, eB, ↓reduceIte, Nat.reduceEqDiff, Nat.reduceAdd, Nat.reduceLeDiff, Nat.reduceMul, Nat.reduceBEq, Nat.reduceBneDiff, Nat.reduceLT, Nat.reduceSub, decide_true, decide_false, and_self, true_and, and_true, false_and, and_false, not_true_eq_false, not_false_eq_true, false_implies, true_implies, implies_true, ge_iff_le, Bool.false_eq_true, List.cons_append, List.nil_append]

def k_l06World (f1 f2 f3 : Nat) : RC :=
 (.seq
  (.reg false [⟨none, .box 2 2 (.t 0)⟩,
    ⟨none, .mv 4 (.c (.sc (.bool false)))⟩])
  ((.seq
   (.reg false [⟨none, .mv 9 (.t 1)⟩,
     ⟨none, .nck 10 (.t 9)⟩,
     ⟨none, .fa 11 0 (.t 10)⟩,
     ⟨none, .ld 12 false 1 (.t 11)⟩,
     ⟨none, .len 13 (.t 12)⟩,
     ⟨none, .mv 5 (.t 13)⟩])
   ((.seq
    ((.seq
     (.reg true [⟨none, .ld 14 true 2 (.t 2)⟩,
       ⟨none, .call (some 15) f1 [(.t 14)]⟩,
       ⟨none, .un 16 .not (.t 15)⟩,
       ⟨none, .mv 17 (.t 16)⟩,
       ⟨some (17, false), .mv 18 (.t 5)⟩,
       ⟨some (17, false), .call (some 19) f2 [(.t 18), (.c (.sc (.int .i64 1))), (.c (.sc (.int .i64 12)))]⟩,
       ⟨some (17, false), .un 20 .not (.t 19)⟩,
       ⟨none, .pick 21 (.t 17) (.c (.sc (.bool true))) (.t 20)⟩,
       ⟨none, .mv 22 (.t 21)⟩,
       ⟨some (22, false), .mv 23 (.t 1)⟩,
       ⟨some (22, false), .nck 24 (.t 23)⟩,
       ⟨some (22, false), .fa 25 1 (.t 24)⟩,
       ⟨some (22, false), .ld 26 false 1 (.t 25)⟩,
       ⟨some (22, false), .len 27 (.t 26)⟩,
       ⟨some (22, false), .fa 28 1 (.t 2)⟩,
       ⟨some (22, false), .ld 29 false 1 (.t 28)⟩,
       ⟨some (22, false), .bin 30 .neq (.t 27) (.t 29)⟩,
       ⟨none, .pick 31 (.t 22) (.c (.sc (.bool true))) (.t 30)⟩])
     (.cond (.t 31)
      ((.seq
       (.reg false [⟨none, .mv 4 (.c (.sc (.bool false)))⟩])
       (.ret)))
      (.skip))))
    ((.seq
     ((.seq
      (.reg false [⟨none, .mv 6 (.c (.sc (.int .i64 0)))⟩])
      (.blk 0
       (.loop
        ((.seq
         ((.seq
          (.reg false [⟨none, .mv 32 (.t 6)⟩,
            ⟨none, .mv 33 (.t 1)⟩,
            ⟨none, .nck 34 (.t 33)⟩,
            ⟨none, .fa 35 0 (.t 34)⟩,
            ⟨none, .ld 36 false 1 (.t 35)⟩,
            ⟨none, .len 37 (.t 36)⟩,
            ⟨none, .bin 38 .lss (.t 32) (.t 37)⟩])
          (.cond (.t 38)
           (.skip)
           (.exit 0))))
         ((.seq
          (.blk 1
           ((.seq
            (.reg true [⟨none, .ld 41 true 2 (.t 2)⟩,
              ⟨none, .mv 42 (.t 1)⟩,
              ⟨none, .nck 43 (.t 42)⟩,
              ⟨none, .fa 44 0 (.t 43)⟩,
              ⟨none, .ld 45 false 1 (.t 44)⟩,
              ⟨none, .mv 46 (.t 6)⟩,
              ⟨none, .ia 47 1 (.t 45) (.t 46)⟩,
              ⟨none, .ld 48 false 1 (.t 47)⟩,
              ⟨none, .call (some 49) f3 [(.t 41), (.t 48)]⟩,
              ⟨none, .un 50 .not (.t 49)⟩])
            (.cond (.t 50)
             ((.seq
              (.reg false [⟨none, .mv 4 (.c (.sc (.bool false)))⟩])
              (.ret)))
             (.skip)))))
          (.reg false [⟨none, .mv 39 (.t 6)⟩,
            ⟨none, .bin 40 .add (.t 39) (.c (.sc (.int .i64 1)))⟩,
            ⟨none, .mv 6 (.t 40)⟩])))))))))
     ((.seq
      ((.seq
       (.reg false [⟨none, .mv 7 (.c (.sc (.int .i64 0)))⟩])
       (.blk 2
        (.loop
         ((.seq
          ((.seq
           (.reg false [⟨none, .mv 51 (.t 7)⟩,
             ⟨none, .mv 52 (.t 1)⟩,
             ⟨none, .nck 53 (.t 52)⟩,
             ⟨none, .fa 54 1 (.t 53)⟩,
             ⟨none, .ld 55 false 1 (.t 54)⟩,
             ⟨none, .len 56 (.t 55)⟩,
             ⟨none, .bin 57 .lss (.t 51) (.t 56)⟩])
           (.cond (.t 57)
            (.skip)
            (.exit 2))))
          ((.seq
           (.blk 3
            ((.seq
             ((.seq
              (.reg false [⟨none, .mv 60 (.t 1)⟩,
                ⟨none, .nck 61 (.t 60)⟩,
                ⟨none, .fa 62 1 (.t 61)⟩,
                ⟨none, .ld 63 false 1 (.t 62)⟩,
                ⟨none, .mv 64 (.t 7)⟩,
                ⟨none, .ia 65 1 (.t 63) (.t 64)⟩,
                ⟨none, .ld 66 false 1 (.t 65)⟩,
                ⟨none, .len 67 (.t 66)⟩,
                ⟨none, .mv 68 (.t 5)⟩,
                ⟨none, .bin 69 .neq (.t 67) (.t 68)⟩])
              (.cond (.t 69)
               ((.seq
                (.reg false [⟨none, .mv 4 (.c (.sc (.bool false)))⟩])
                (.ret)))
               (.skip))))
             ((.seq
              (.reg false [⟨none, .mv 8 (.c (.sc (.int .i64 0)))⟩])
              (.blk 4
               (.loop
                ((.seq
                 ((.seq
                  (.reg false [⟨none, .mv 70 (.t 8)⟩,
                    ⟨none, .mv 71 (.t 1)⟩,
                    ⟨none, .nck 72 (.t 71)⟩,
                    ⟨none, .fa 73 1 (.t 72)⟩,
                    ⟨none, .ld 74 false 1 (.t 73)⟩,
                    ⟨none, .mv 75 (.t 7)⟩,
                    ⟨none, .ia 76 1 (.t 74) (.t 75)⟩,
                    ⟨none, .ld 77 false 1 (.t 76)⟩,
                    ⟨none, .len 78 (.t 77)⟩,
                    ⟨none, .bin 79 .lss (.t 70) (.t 78)⟩])
                  (.cond (.t 79)
                   (.skip)
                   (.exit 4))))
                 ((.seq
                  (.blk 5
                   ((.seq
                    (.reg false [⟨none, .mv 82 (.t 1)⟩,
                      ⟨none, .nck 83 (.t 82)⟩,
                      ⟨none, .fa 84 1 (.t 83)⟩,
                      ⟨none, .ld 85 false 1 (.t 84)⟩,
                      ⟨none, .mv 86 (.t 7)⟩,
                      ⟨none, .ia 87 1 (.t 85) (.t 86)⟩,
                      ⟨none, .ld 88 false 1 (.t 87)⟩,
                      ⟨none, .mv 89 (.t 8)⟩,
                      ⟨none, .ia 90 1 (.t 88) (.t 89)⟩,
                      ⟨none, .ld 91 false 1 (.t 90)⟩,
                      ⟨none, .mv 92 (.t 5)⟩,
                      ⟨none, .bin 93 .sub (.t 92) (.c (.sc (.int .i64 1)))⟩,
                      ⟨none, .call (some 94) f2 [(.t 91), (.c (.sc (.int .i64 (-1)))), (.t 93)]⟩,
                      ⟨none, .un 95 .not (.t 94)⟩])
                    (.cond (.t 95)
                     ((.seq
                      (.reg false [⟨none, .mv 4 (.c (.sc (.bool false)))⟩])
                      (.ret)))
                     (.skip)))))
                  (.reg false [⟨none, .mv 80 (.t 8)⟩,
                    ⟨none, .bin 81 .add (.t 80) (.c (.sc (.int .i64 1)))⟩,
                    ⟨none, .mv 8 (.t 81)⟩]))))))))))))
           (.reg false [⟨none, .mv 58 (.t 7)⟩,
             ⟨none, .bin 59 .add (.t 58) (.c (.sc (.int .i64 1)))⟩,
             ⟨none, .mv 7 (.t 59)⟩])))))))))
      ((.seq
       (.reg false [⟨none, .mv 4 (.c (.sc (.bool true)))⟩])
       (.ret))))))))))))
def K_l06World (P : Program) (f : Nat) : Prop := ∀ (g : Int × Int) (w : Wd), AF P f [eG g, .pt (eW w) 0] (.own (eB (okG g && okW g w)))
theorem a_l06World {P : Program} (hm : P.follows .mixedOrders = true) {g f1 f2 f3 : Nat} (hr : resF P g = some (96, k_l06World f1 f2 f3, [.t 4])) (hc1 : K_l01Sig P f1) (hc2 : K_l00In P f2) (hc3 : K_l02Atom P f3) : K_l06World P g := by
  intro g w
  refine af_of_res hr hm rfl fun hb => ?_
  have hb2 := hb.2.1
  simp only [eW, eS, D.bd, D.bdL, List.length_map] at hb2
  have hl := hb2.1.1
  have hl2 := hb2.2.1.1
  have hl3 := hb2.2.1.2.2
  unfold maxEl at hl hl2
  simp +contextual -implicitDefEqProofs only [k_l06World, eG, eW, eS, List.length_map, go_sem, eI, eB, ↓reduceIte, Nat.reduceEqDiff, Nat.reduceAdd, Nat.reduceLeDiff, Nat.reduceMul, Nat.reduceBEq, Nat.reduceBneDiff, Nat.reduceLT, Nat.reduceSub, decide_true, decide_false, and_self, true_and, and_true, false_and, and_false, not_true_eq_false, not_false_eq_true, false_implies, true_implies, implies_true, ge_iff_le, Bool.false_eq_true, List.cons_append, List.nil_append]
  refine callQ_self ?_ (hc1 g) ?_
  · exact rfl
  cases hg : okG g
  · simp +contextual -implicitDefEqProofs only [hg, bne, Bool.not_true, Bool.not_false, Bool.true_and, Bool.false_and, Bool.and_true, Bool.and_false, Bool.true_or, Bool.false_or, Bool.or_true, Bool.or_false, go_sem, eI, eB, ↓reduceIte, Nat.reduceEqDiff, Nat.reduceAdd, Nat.reduceLeDiff, Nat.reduceMul, Nat.reduceBEq, Nat.reduceBneDiff, Nat.reduceLT, Nat.reduceSub, decide_true, decide_false, and_self, true_and, and_true, false_and, and_false, not_true_eq_false, not_false_eq_true, false_implies, true_implies, implies_true, ge_iff_le, Bool.false_eq_true, List.cons_append, List.nil_append]
  simp +contextual -implicitDefEqProofs only [hg, eS, List.length_map, bne, Bool.not_true, Bool.not_false, Bool.true_and, Bool.false_and, Bool.and_true, Bool.and_false, Bool.true_or, Bool.false_or, Bool.or_true, Bool.or_false, go_sem, eI, eB, ↓reduceIte, Nat.reduceEqDiff, Nat.reduceAdd, Nat.reduceLeDiff, Nat.reduceMul, Nat.reduceBEq, Nat.reduceBneDiff, Nat.reduceLT, Nat.reduceSub, decide_true, decide_false, and_self, true_and, and_true, false_and, and_false, not_true_eq_false, not_false_eq_true, false_implies, true_implies, implies_true, ge_iff_le, Bool.false_eq_true, List.cons_append, List.nil_append]
  refine callQ_self ?_ (hc2 w.1.2.length 1 12) ?_
  · exact rfl
  have hg' := okG_iff hg
  have hp := atoms_le hg
  cases h1 : isIn w.1.2.length 1 12
  · simp +contextual -implicitDefEqProofs only [okW, h1, bne, Bool.not_true, Bool.not_false, Bool.true_and, Bool.false_and, Bool.and_true, Bool.and_false, Bool.true_or, Bool.false_or, Bool.or_true, Bool.or_false, go_sem, eI, eB, ↓reduceIte, Nat.reduceEqDiff, Nat.reduceAdd, Nat.reduceLeDiff, Nat.reduceMul, Nat.reduceBEq, Nat.reduceBneDiff, Nat.reduceLT, Nat.reduceSub, decide_true, decide_false, and_self, true_and, and_true, false_and, and_false, not_true_eq_false, not_false_eq_true, false_implies, true_implies, implies_true, ge_iff_le, Bool.false_eq_true, List.cons_append, List.nil_append]
  cases h3 : lenIs g.2 w.2
  · have h3' := h3
    simp only [lenIs] at h3'
    simp +contextual -implicitDefEqProofs only [okW, h1, h3, h3', eS, List.length_map, bne, Bool.not_true, Bool.not_false, Bool.true_and, Bool.false_and, Bool.and_true, Bool.and_false, Bool.true_or, Bool.false_or, Bool.or_true, Bool.or_false, go_sem, eI, eB, ↓reduceIte, Nat.reduceEqDiff, Nat.reduceAdd, Nat.reduceLeDiff, Nat.reduceMul, Nat.reduceBEq, Nat.reduceBneDiff, Nat.reduceLT, Nat.reduceSub, decide_true, decide_false, and_self, true_and, and_true, false_and, and_false, not_true_eq_false, not_false_eq_true, false_implies, true_implies, implies_true, ge_iff_le, Bool.false_eq_true, List.cons_append, List.nil_append]
  have h3' := h3
  simp only [lenIs] at h3'
  have hn : (w.1.2.length : Int) ≤ 12 := by
    simp [isIn] at h1
    omega
  simp +contextual -implicitDefEqProofs only [h1, h3', eS, List.length_map, bne, Bool.not_true, Bool.not_false, Bool.true_and, Bool.false_and, Bool.and_true, Bool.and_false, Bool.true_or, Bool.false_or, Bool.or_true, Bool.or_false, go_sem, eI, eB, ↓reduceIte, Nat.reduceEqDiff, Nat.reduceAdd, Nat.reduceLeDiff, Nat.reduceMul, Nat.reduceBEq, Nat.reduceBneDiff, Nat.reduceLT, Nat.reduceSub, decide_true, decide_false, and_self, true_and, and_true, false_and, and_false, not_true_eq_false, not_false_eq_true, false_implies, true_implies, implies_true, ge_iff_le, Bool.false_eq_true, List.cons_append, List.nil_append]
  refine vc_on (α := Nat) [4, 6, 32, 33, 34, 35, 36, 37, 38, 39, 40, 41, 42, 43, 44, 45, 46, 47, 48, 49, 50] (fun i => [(6, .im none (.sc (.int .i64 i)))]) (fun i => i ≤ w.1.2.length ∧ (w.1.2.take i).all ((fun x => isIn x 0 (atomsOf g - 1))) = true) (fun i => w.1.2.length - i) 0 (by simp only [subEnv, go_sem, ↓reduceIte, Nat.reduceEqDiff, List.length_map]; simp) ⟨Nat.zero_le _, rfl⟩ ?_
  rintro i ⟨j1, j2⟩
  by_cases hi : i < w.1.2.length
  · have e1 := at_map (f := eI) hi
    simp +contextual -implicitDefEqProofs only [eS, e1, hi, Int.ofNat_lt, List.length_map, Int.natCast_nonneg, go_sem, eI, eB, ↓reduceIte, Nat.reduceEqDiff, Nat.reduceAdd, Nat.reduceLeDiff, Nat.reduceMul, Nat.reduceBEq, Nat.reduceBneDiff, Nat.reduceLT, Nat.reduceSub, decide_true, decide_false, and_self, true_and, and_true, false_and, and_false, not_true_eq_false, not_false_eq_true, false_implies, true_implies, implies_true, ge_iff_le, Bool.false_eq_true, List.cons_append, List.nil_append]
    refine callQ_self ?_ (hc3 g w.1.2[i] hg) ?_
    · exact rfl
    cases hx : isIn w.1.2[i] 0 (atomsOf g - 1)
    · simp +contextual -implicitDefEqProofs only [bne, Bool.not_true, Bool.not_false, Bool.true_and, Bool.false_and, Bool.and_true, Bool.and_false, Bool.true_or, Bool.false_or, Bool.or_true, Bool.or_false, go_sem, eI, eB, ↓reduceIte, Nat.reduceEqDiff, Nat.reduceAdd, Nat.reduceLeDiff, Nat.reduceMul, Nat.reduceBEq, Nat.reduceBneDiff, Nat.reduceLT, Nat.reduceSub, decide_true, decide_false, and_self, true_and, and_true, false_and, and_false, not_true_eq_false, not_false_eq_true, false_implies, true_implies, implies_true, ge_iff_le, Bool.false_eq_true, List.cons_append, List.nil_append]
      exact D.Le.sc_eq (by simp only [okW, allIn, h1, h3]; rw [all_fail hi hx]; simp)
    · simp +contextual -implicitDefEqProofs only [bne, Bool.not_true, Bool.not_false, Bool.true_and, Bool.false_and, Bool.and_true, Bool.and_false, Bool.true_or, Bool.false_or, Bool.or_true, Bool.or_false, go_sem, eI, eB, ↓reduceIte, Nat.reduceEqDiff, Nat.reduceAdd, Nat.reduceLeDiff, Nat.reduceMul, Nat.reduceBEq, Nat.reduceBneDiff, Nat.reduceLT, Nat.reduceSub, decide_true, decide_false, and_self, true_and, and_true, false_and, and_false, not_true_eq_false, not_false_eq_true, false_implies, true_implies, implies_true, ge_iff_le, Bool.false_eq_true, List.cons_append, List.nil_append]
      rw [wrap_i64 (by omega) (by omega)]
      exact ⟨i + 1, ⟨by omega, all_take_succ hi j2 hx⟩, by omega, Ent.env (by simp only [subEnv, go_sem, ↓reduceIte, Nat.reduceEqDiff, List.length_map]; simp)⟩
  · simp +contextual -implicitDefEqProofs only [eS, hi, Int.ofNat_lt, List.length_map, Int.natCast_nonneg, go_sem, eI, eB, ↓reduceIte, Nat.reduceEqDiff, Nat.reduceAdd, Nat.reduceLeDiff, Nat.reduceMul, Nat.reduceBEq, Nat.reduceBneDiff, Nat.reduceLT, Nat.reduceSub, decide_true, decide_false, and_self, true_and, and_true, false_and, and_false, not_true_eq_false, not_false_eq_true, false_implies, true_implies, implies_true, ge_iff_le, Bool.false_eq_true, List.cons_append, List.nil_append]
    have h2 : allIn 0 (atomsOf g - 1) w.1.2 = true := by simp only [allIn]; rw [all_of_take hi j2]
    refine vc_on (α := Nat) [4, 7, 8, 51, 52, 53, 54, 55, 56, 57, 58, 59, 60, 61, 62, 63, 64, 65, 66, 67, 68, 69, 70, 71, 72, 73, 74, 75, 76, 77, 78, 79, 80, 81, 82, 83, 84, 85, 86, 87, 88, 89, 90, 91, 92, 93, 94, 95] (fun i => [(7, .im none (.sc (.int .i64 i)))]) (fun i => i ≤ w.2.2.length ∧ (w.2.2.take i).all (rowOk w.1.2.length) = true) (fun i => w.2.2.length - i) 0 (by simp only [subEnv, go_sem, ↓reduceIte, Nat.reduceEqDiff, List.length_map]; simp) ⟨Nat.zero_le _, rfl⟩ ?_
    rintro i ⟨j1, j2⟩
    by_cases hi : i < w.2.2.length
    · have e1 := at_map (f := eS 1 eI) hi
      simp +contextual -implicitDefEqProofs only [eS, e1, hi, Int.ofNat_lt, List.length_map, Int.natCast_nonneg, go_sem, eI, eB, ↓reduceIte, Nat.reduceEqDiff, Nat.reduceAdd, Nat.reduceLeDiff, Nat.reduceMul, Nat.reduceBEq, Nat.reduceBneDiff, Nat.reduceLT, Nat.reduceSub, decide_true, decide_false, and_self, true_and, and_true, false_and, and_false, not_true_eq_false, not_false_eq_true, false_implies, true_implies, implies_true, ge_iff_le, Bool.false_eq_true, List.cons_append, List.nil_append]
      have hli : w.2.2[i].2.length ≤ 9223372036854775807 := by
        have := bd_ls (bdL_mem hl3 _ (List.mem_map_of_mem (List.getElem_mem hi)))
        simpa only [List.length_map] using this
      cases hy : lenIs (w.1.2.length : Int) w.2.2[i]
      · have hy' := hy
        simp only [lenIs] at hy'
        simp +contextual -implicitDefEqProofs only [eS, List.length_map, hy', bne, Bool.not_true, Bool.not_false, Bool.true_and, Bool.false_and, Bool.and_true, Bool.and_false, Bool.true_or, Bool.false_or, Bool.or_true, Bool.or_false, go_sem, eI, eB, ↓reduceIte, Nat.reduceEqDiff, Nat.reduceAdd, Nat.reduceLeDiff, Nat.reduceMul, Nat.reduceBEq, Nat.reduceBneDiff, Nat.reduceLT, Nat.reduceSub, decide_true, decide_false, and_self, true_and, and_true, false_and, and_false, not_true_eq_false, not_false_eq_true, false_implies, true_implies, implies_true, ge_iff_le, Bool.false_eq_true, List.cons_append, List.nil_append]
        have hx : rowOk w.1.2.length w.2.2[i] = false := by simp only [rowOk, hy, Bool.false_and]
        have hr2 := all_fail (p := rowOk w.1.2.length) hi hx
        exact D.Le.sc_eq (by simp only [okW, h1, h2, h3, hr2, Bool.and_false])
      have hy' := hy
      simp only [lenIs] at hy'
      simp +contextual -implicitDefEqProofs only [eS, List.length_map, hy', bne, Bool.not_true, Bool.not_false, Bool.true_and, Bool.false_and, Bool.and_true, Bool.and_false, Bool.true_or, Bool.false_or, Bool.or_true, Bool.or_false, go_sem, eI, eB, ↓reduceIte, Nat.reduceEqDiff, Nat.reduceAdd, Nat.reduceLeDiff, Nat.reduceMul, Nat.reduceBEq, Nat.reduceBneDiff, Nat.reduceLT, Nat.reduceSub, decide_true, decide_false, and_self, true_and, and_true, false_and, and_false, not_true_eq_false, not_false_eq_true, false_implies, true_implies, implies_true, ge_iff_le, Bool.false_eq_true, List.cons_append, List.nil_append]
      refine vc_on (α := Nat) [4, 8, 70, 71, 72, 73, 74, 75, 76, 77, 78, 79, 80, 81, 82, 83, 84, 85, 86, 87, 88, 89, 90, 91, 92, 93, 94, 95] (fun k => [(8, .im none (.sc (.int .i64 k)))]) (fun k => k ≤ w.2.2[i].2.length ∧ (w.2.2[i].2.take k).all ((fun k => isIn k (-1) ((w.1.2.length : Int) - 1))) = true) (fun k => w.2.2[i].2.length - k) 0 (by simp only [subEnv, go_sem, ↓reduceIte, Nat.reduceEqDiff, List.length_map]; simp) ⟨Nat.zero_le _, rfl⟩ ?_
      rintro k ⟨k1, k2⟩
      by_cases hk : k < w.2.2[i].2.length
      · have e2 := at_map (f := eI) hk
        simp +contextual -implicitDefEqProofs only [eS, e1, hi, e2, hk, Int.ofNat_lt, List.length_map, Int.natCast_nonneg, go_sem, eI, eB, ↓reduceIte, Nat.reduceEqDiff, Nat.reduceAdd, Nat.reduceLeDiff, Nat.reduceMul, Nat.reduceBEq, Nat.reduceBneDiff, Nat.reduceLT, Nat.reduceSub, decide_true, decide_false, and_self, true_and, and_true, false_and, and_false, not_true_eq_false, not_false_eq_true, false_implies, true_implies, implies_true, ge_iff_le, Bool.false_eq_true, List.cons_append, List.nil_append]
        rw [wrap_i64 (by omega) (by omega)]
        refine callQ_self ?_ (hc2 w.2.2[i].2[k] (-1) (w.1.2.length - 1)) ?_
        · exact rfl
        cases hz : isIn w.2.2[i].2[k] (-1) ((w.1.2.length : Int) - 1)
        · simp +contextual -implicitDefEqProofs only [bne, Bool.not_true, Bool.not_false, Bool.true_and, Bool.false_and, Bool.and_true, Bool.and_false, Bool.true_or, Bool.false_or, Bool.or_true, Bool.or_false, go_sem, eI, eB, ↓reduceIte, Nat.reduceEqDiff, Nat.reduceAdd, Nat.reduceLeDiff, Nat.reduceMul, Nat.reduceBEq, Nat.reduceBneDiff, Nat.reduceLT, Nat.reduceSub, decide_true, decide_false, and_self, true_and, and_true, false_and, and_false, not_true_eq_false, not_false_eq_true, false_implies, true_implies, implies_true, ge_iff_le, Bool.false_eq_true, List.cons_append, List.nil_append]
          have hx : rowOk w.1.2.length w.2.2[i] = false := by simp only [rowOk, hy, allIn]; rw [all_fail hk hz]; rfl
          have hr2 := all_fail (p := rowOk w.1.2.length) hi hx
          exact D.Le.sc_eq (by simp only [okW, h1, h2, h3, hr2, Bool.and_false])
        · simp +contextual -implicitDefEqProofs only [bne, Bool.not_true, Bool.not_false, Bool.true_and, Bool.false_and, Bool.and_true, Bool.and_false, Bool.true_or, Bool.false_or, Bool.or_true, Bool.or_false, go_sem, eI, eB, ↓reduceIte, Nat.reduceEqDiff, Nat.reduceAdd, Nat.reduceLeDiff, Nat.reduceMul, Nat.reduceBEq, Nat.reduceBneDiff, Nat.reduceLT, Nat.reduceSub, decide_true, decide_false, and_self, true_and, and_true, false_and, and_false, not_true_eq_false, not_false_eq_true, false_implies, true_implies, implies_true, ge_iff_le, Bool.false_eq_true, List.cons_append, List.nil_append]
          rw [wrap_i64 (by omega) (by omega)]
          exact ⟨k + 1, ⟨by omega, all_take_succ hk k2 hz⟩, by omega, Ent.env (by simp only [subEnv, go_sem, ↓reduceIte, Nat.reduceEqDiff, List.length_map]; simp)⟩
      · simp +contextual -implicitDefEqProofs only [eS, e1, hi, hk, Int.ofNat_lt, List.length_map, Int.natCast_nonneg, go_sem, eI, eB, ↓reduceIte, Nat.reduceEqDiff, Nat.reduceAdd, Nat.reduceLeDiff, Nat.reduceMul, Nat.reduceBEq, Nat.reduceBneDiff, Nat.reduceLT, Nat.reduceSub, decide_true, decide_false, and_self, true_and, and_true, false_and, and_false, not_true_eq_false, not_false_eq_true, false_implies, true_implies, implies_true, ge_iff_le, Bool.false_eq_true, List.cons_append, List.nil_append]
        have hx : rowOk w.1.2.length w.2.2[i] = true := by simp only [rowOk, hy, allIn]; rw [all_of_take hk k2]; rfl
        rw [wrap_i64 (by omega) (by omega)]
        exact ⟨i + 1, ⟨by omega, all_take_succ hi j2 hx⟩, by omega, Ent.env (by simp only [subEnv, go_sem, ↓reduceIte, Nat.reduceEqDiff, List.length_map]; simp)⟩
    · simp +contextual -implicitDefEqProofs only [eS, hi, Int.ofNat_lt, List.length_map, Int.natCast_nonneg, go_sem, eI, eB, ↓reduceIte, Nat.reduceEqDiff, Nat.reduceAdd, Nat.reduceLeDiff, Nat.reduceMul, Nat.reduceBEq, Nat.reduceBneDiff, Nat.reduceLT, Nat.reduceSub, decide_true, decide_false, and_self, true_and, and_true, false_and, and_false, not_true_eq_false, not_false_eq_true, false_implies, true_implies, implies_true, ge_iff_le, Bool.false_eq_true, List.cons_append, List.nil_append]
      have hr2 := all_of_take hi j2
      exact D.Le.sc_eq (by simp only [okW, h1, h2, h3, hr2, Bool.and_self, Bool.and_true])
end Go.Ax
