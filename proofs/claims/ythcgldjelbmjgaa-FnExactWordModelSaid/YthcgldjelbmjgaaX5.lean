/- Contracts of functions of the seat, proved over the engine. No condition. -/
import Derived.Test.YthcgldjelbmjgaaX3
set_option linter.unusedSimpArgs false
set_option linter.unusedVariables false
set_option linter.unnecessarySimpa false
namespace Go.Ax
set_option linter.unusedSimpArgs false
set_option maxHeartbeats 4000000
abbrev Wo := SL Int × SL Int
def eWo (v : Wo) : D := .ag [eS 1 eI v.1, eS 1 eI v.2]
def allIn (lo hi : Int) (l : List Int) : Bool := l.all fun x => isIn x lo hi
def atomsOf (g : Int × Int) : Int := 2 ^ g.1.toNat
def traceOk (g : Int × Int) (v : Wo) : Bool := lenIs (v.2.2.length + 1) v.1 && (allIn 0 (atomsOf g - 1) v.1.2 && allIn 0 (g.2 - 1) v.2.2)
def okWo (g : Int × Int) (v : Wo) : Bool := decide ((v.2.2.length : Int) ≤ 10) && traceOk g v
theorem okG_iff {g : Int × Int} (h : okG g = true) : (0 ≤ g.1 ∧ g.1 ≤ 3) ∧ 0 ≤ g.2 ∧ g.2 ≤ 4 := by simpa [okG, isIn] using h
theorem pow_small {n : Int} (h1 : 0 ≤ n) (h2 : n ≤ 3) : IntKind.i64.wrap (1 * 2 ^ min n.toNat 64) = 2 ^ n.toNat := by
  have : n = 0 ∨ n = 1 ∨ n = 2 ∨ n = 3 := by omega
  rcases this with rfl | rfl | rfl | rfl <;> decide
theorem atoms_le {g : Int × Int} (h : okG g = true) : 1 ≤ atomsOf g ∧ atomsOf g ≤ 8 := by
  have h := (okG_iff h).1
  have : g.1 = 0 ∨ g.1 = 1 ∨ g.1 = 2 ∨ g.1 = 3 := by omega
  unfold atomsOf
  rcases this with e | e | e | e <;> rw [e] <;> decide

def k_l01Atoms : RC := (.seq (.reg false [⟨none, .box 1 2 (.t 0)⟩, ⟨none, .mv 2 (.c (.sc (.int .i64 0)))⟩]) ((.seq (.reg false [⟨none, .fa 3 0 (.t 1)⟩, ⟨none, .ld 4 false 1 (.t 3)⟩, ⟨none, .cvt 5 .u64 (.t 4)⟩, ⟨none, .bin 6 .shl (.c (.sc (.int .i64 1))) (.t 5)⟩, ⟨none, .mv 2 (.t 6)⟩]) (.ret))))
def K_l01Atoms (P : Program) (f : Nat) : Prop := ∀ (g : Int × Int) (h : okG g = true), AF P f [eG g] (.own (eI (atomsOf g)))
theorem a_l01Atoms {P : Program} (hm : P.follows .mixedOrders = true) {g : Nat} (hr : resF P g = some (7, k_l01Atoms, [.t 2])) : K_l01Atoms P g := by
  intro g h
  refine af_of_res hr hm rfl fun hb => ?_
  simp +contextual -implicitDefEqProofs only [k_l01Atoms, eG, go_sem, eI, eB, ↓reduceIte, Nat.reduceEqDiff, Nat.reduceAdd, Nat.reduceLeDiff, Nat.reduceMul, Nat.reduceBEq, Nat.reduceBneDiff, Nat.reduceLT, Nat.reduceSub, Bool.false_eq_true, List.cons_append, List.nil_append]
  have h := (okG_iff h).1
  refine D.Le.sc_eq ?_
  rw [show IntKind.u64.wrap g.1 = g.1 by simp [IntKind.wrap, IntKind.bits, IntKind.signed]; omega, pow_small h.1 h.2]
  rfl

def k_atomsIn : RC := (.seq (.reg false [⟨none, .box 1 2 (.t 0)⟩, ⟨none, .mv 2 (.c (.sc (.int .i64 0)))⟩]) ((.seq (.reg false [⟨none, .fa 3 0 (.t 1)⟩, ⟨none, .ld 4 false 1 (.t 3)⟩, ⟨none, .bin 5 .shl (.c (.sc (.int .i64 1))) (.t 4)⟩, ⟨none, .mv 2 (.t 5)⟩]) (.ret))))
def K_atomsIn (P : Program) (f : Nat) : Prop := ∀ (g : Int × Int) (h : okG g = true), AF P f [eG g] (.own (eI (atomsOf g)))
theorem a_atomsIn {P : Program} (hm : P.follows .mixedOrders = true) {g : Nat} (hr : resF P g = some (6, k_atomsIn, [.t 2])) : K_atomsIn P g := by
  intro g h
  refine af_of_res hr hm rfl fun hb => ?_
  simp +contextual -implicitDefEqProofs only [k_atomsIn, eG, go_sem, eI, eB, ↓reduceIte, Nat.reduceEqDiff, Nat.reduceAdd, Nat.reduceLeDiff, Nat.reduceMul, Nat.reduceBEq, Nat.reduceBneDiff, Nat.reduceLT, Nat.reduceSub, Bool.false_eq_true, List.cons_append, List.nil_append]
  have h := (okG_iff h).1
  exact ⟨h.1, D.Le.sc_eq (by rw [pow_small h.1 h.2]; rfl)⟩

def k_inRange (f1 : Nat) : RC := (.seq (.reg false [⟨none, .mv 4 (.c (.sc (.bool false)))⟩]) ((.seq ((.seq (.reg false [⟨none, .mv 7 (.t 0)⟩, ⟨none, .len 8 (.t 7)⟩, ⟨none, .mv 9 (.c (.sc (.int .i64 0)))⟩]) (.blk 0 (.loop ((.seq (.reg false [⟨none, .bin 10 .lss (.t 9) (.t 8)⟩]) ((.seq (.cond (.t 10) (.skip) (.exit 0)) ((.seq (.blk 1 ((.seq (.reg false [⟨none, .ia 11 1 (.t 7) (.t 9)⟩, ⟨none, .ld 12 false 1 (.t 11)⟩, ⟨none, .mv 6 (.t 12)⟩]) ((.seq (.reg false [⟨none, .mv 13 (.t 6)⟩, ⟨none, .mv 14 (.t 1)⟩, ⟨none, .bin 15 .sub (.t 14) (.c (.sc (.int .i64 1)))⟩, ⟨none, .call (some 16) f1 [(.t 13), (.c (.sc (.int .i64 0))), (.t 15)]⟩, ⟨none, .un 17 .not (.t 16)⟩]) (.cond (.t 17) ((.seq (.reg false [⟨none, .mv 4 (.c (.sc (.bool false)))⟩]) (.ret))) (.skip))))))) (.reg false [⟨none, .bin 18 .add (.t 9) (.c (.sc (.int .i64 1)))⟩, ⟨none, .mv 9 (.t 18)⟩]))))))))))) ((.seq (.reg false [⟨none, .mv 4 (.c (.sc (.bool true)))⟩]) (.ret))))))
def K_inRange (P : Program) (f : Nat) : Prop := ∀ (s : SL Int) (n : Int) (h1 : 0 ≤ n) (h2 : n ≤ 1048576), AF P f [eS 1 eI s, eI n] (.own (eB (allIn 0 (n - 1) s.2)))
theorem a_inRange {P : Program} (hm : P.follows .mixedOrders = true) {g f1 : Nat} (hr : resF P g = some (19, k_inRange f1, [.t 4])) (hc1 : K_within P f1) : K_inRange P g := by
  intro s n h1 h2
  refine af_of_res hr hm rfl fun hb => ?_
  have hl := bd_ls hb.1
  simp only [List.length_map] at hl
  simp +contextual -implicitDefEqProofs only [k_inRange, eS, List.length_map, go_sem, eI, eB, ↓reduceIte, Nat.reduceEqDiff, Nat.reduceAdd, Nat.reduceLeDiff, Nat.reduceMul, Nat.reduceBEq, Nat.reduceBneDiff, Nat.reduceLT, Nat.reduceSub, Bool.false_eq_true, List.cons_append, List.nil_append]
  refine vc_on (α := Nat) [4, 6, 9, 10, 11, 12, 13, 14, 15, 16, 17, 18] (fun i => [(9, .im none (.sc (.int .i64 i)))]) (fun i => i ≤ s.2.length ∧ (s.2.take i).all ((fun x => isIn x 0 (n - 1))) = true) (fun i => s.2.length - i) 0 (by simp only [subEnv, go_sem, ↓reduceIte, Nat.reduceEqDiff, List.length_map]; simp) ⟨Nat.zero_le _, rfl⟩ ?_
  rintro i ⟨j1, j2⟩
  by_cases hi : i < s.2.length
  · have e1 := at_map (f := eI) hi
    simp +contextual -implicitDefEqProofs only [e1, hi, Int.ofNat_lt, List.length_map, Int.natCast_nonneg, go_sem, eI, eB, ↓reduceIte, Nat.reduceEqDiff, Nat.reduceAdd, Nat.reduceLeDiff, Nat.reduceMul, Nat.reduceBEq, Nat.reduceBneDiff, Nat.reduceLT, Nat.reduceSub, Bool.false_eq_true, List.cons_append, List.nil_append]
    rw [wrap_i64 (by omega) (by omega)]
    refine callQ_self ?_ (hc1 s.2[i] 0 (n - 1)) ?_
    · exact rfl
    cases hx : isIn s.2[i] 0 (n - 1)
    · simp +contextual -implicitDefEqProofs only [bne, Bool.not_true, Bool.not_false, Bool.true_and, Bool.false_and, Bool.and_true, Bool.and_false, Bool.true_or, Bool.false_or, Bool.or_true, Bool.or_false, go_sem, eI, eB, ↓reduceIte, Nat.reduceEqDiff, Nat.reduceAdd, Nat.reduceLeDiff, Nat.reduceMul, Nat.reduceBEq, Nat.reduceBneDiff, Nat.reduceLT, Nat.reduceSub, Bool.false_eq_true, List.cons_append, List.nil_append]
      exact D.Le.sc_eq (by simp only [allIn]; rw [all_fail hi hx])
    · simp +contextual -implicitDefEqProofs only [bne, Bool.not_true, Bool.not_false, Bool.true_and, Bool.false_and, Bool.and_true, Bool.and_false, Bool.true_or, Bool.false_or, Bool.or_true, Bool.or_false, go_sem, eI, eB, ↓reduceIte, Nat.reduceEqDiff, Nat.reduceAdd, Nat.reduceLeDiff, Nat.reduceMul, Nat.reduceBEq, Nat.reduceBneDiff, Nat.reduceLT, Nat.reduceSub, Bool.false_eq_true, List.cons_append, List.nil_append]
      rw [wrap_i64 (by omega) (by omega)]
      exact ⟨i + 1, ⟨by omega, all_take_succ hi j2 hx⟩, by omega, Ent.env (by simp only [subEnv, go_sem, ↓reduceIte, Nat.reduceEqDiff, List.length_map]; simp)⟩
  · simp +contextual -implicitDefEqProofs only [hi, Int.ofNat_lt, List.length_map, Int.natCast_nonneg, go_sem, eI, eB, ↓reduceIte, Nat.reduceEqDiff, Nat.reduceAdd, Nat.reduceLeDiff, Nat.reduceMul, Nat.reduceBEq, Nat.reduceBneDiff, Nat.reduceLT, Nat.reduceSub, Bool.false_eq_true, List.cons_append, List.nil_append]
    exact D.Le.sc_eq (by simp only [allIn]; rw [all_of_take hi j2])

def k_isTrace (f1 f2 : Nat) : RC := (.seq (.reg false [⟨none, .box 2 2 (.t 0)⟩, ⟨none, .box 3 2 (.t 1)⟩, ⟨none, .mv 4 (.c (.sc (.bool false)))⟩]) ((.seq (.reg true [⟨none, .fa 5 0 (.t 3)⟩, ⟨none, .ld 6 false 1 (.t 5)⟩, ⟨none, .len 7 (.t 6)⟩, ⟨none, .fa 8 1 (.t 3)⟩, ⟨none, .ld 9 false 1 (.t 8)⟩, ⟨none, .len 10 (.t 9)⟩, ⟨none, .bin 11 .add (.t 10) (.c (.sc (.int .i64 1)))⟩, ⟨none, .bin 12 .eql (.t 7) (.t 11)⟩, ⟨none, .mv 13 (.t 12)⟩, ⟨some (13, true), .fa 14 0 (.t 3)⟩, ⟨some (13, true), .ld 15 false 1 (.t 14)⟩, ⟨some (13, true), .ld 16 true 2 (.t 2)⟩, ⟨some (13, true), .call (some 17) f1 [(.t 16)]⟩, ⟨some (13, true), .call (some 18) f2 [(.t 15), (.t 17)]⟩, ⟨none, .pick 19 (.t 13) (.t 18) (.c (.sc (.bool false)))⟩, ⟨none, .mv 20 (.t 19)⟩, ⟨some (20, true), .fa 21 1 (.t 3)⟩, ⟨some (20, true), .ld 22 false 1 (.t 21)⟩, ⟨some (20, true), .fa 23 1 (.t 2)⟩, ⟨some (20, true), .ld 24 false 1 (.t 23)⟩, ⟨some (20, true), .call (some 25) f2 [(.t 22), (.t 24)]⟩, ⟨none, .pick 26 (.t 20) (.t 25) (.c (.sc (.bool false)))⟩, ⟨none, .mv 4 (.t 26)⟩]) (.ret))))
def K_isTrace (P : Program) (f : Nat) : Prop := ∀ (g : Int × Int) (v : Wo) (h : okG g = true) (h10 : v.2.2.length ≤ 1048576), AF P f [eG g, eWo v] (.own (eB (traceOk g v)))
theorem a_isTrace {P : Program} (hm : P.follows .mixedOrders = true) {g f1 f2 : Nat} (hr : resF P g = some (27, k_isTrace f1 f2, [.t 4])) (hc1 : K_atomsIn P f1) (hc2 : K_inRange P f2) : K_isTrace P g := by
  intro g v h h10
  refine af_of_res hr hm rfl fun hb => ?_
  have hb1 := hb.2.1
  simp only [eWo, eS, D.bd, D.bdL, List.length_map, maxEl] at hb1
  have hl := hb1.1.1
  have hl2 := hb1.2.1.1
  have hs : v.2.2.length ≤ 9223372036854775806 ∨ v.2.2.length = 9223372036854775807 := by omega
  simp +contextual -implicitDefEqProofs only [k_isTrace, eG, eWo, eS, List.length_map, go_sem, eI, eB, ↓reduceIte, Nat.reduceEqDiff, Nat.reduceAdd, Nat.reduceLeDiff, Nat.reduceMul, Nat.reduceBEq, Nat.reduceBneDiff, Nat.reduceLT, Nat.reduceSub, Bool.false_eq_true, List.cons_append, List.nil_append]
  have hg := okG_iff h
  have hp := atoms_le h
  rw [wrap_i64 (by omega) (by omega)]
  cases h1 : lenIs (v.2.2.length + 1) v.1
  · have h1' := h1
    simp only [lenIs] at h1'
    simp +contextual -implicitDefEqProofs only [traceOk, h1, h1', bne, Bool.not_true, Bool.not_false, Bool.true_and, Bool.false_and, Bool.and_true, Bool.and_false, Bool.true_or, Bool.false_or, Bool.or_true, Bool.or_false, go_sem, eI, eB, ↓reduceIte, Nat.reduceEqDiff, Nat.reduceAdd, Nat.reduceLeDiff, Nat.reduceMul, Nat.reduceBEq, Nat.reduceBneDiff, Nat.reduceLT, Nat.reduceSub, Bool.false_eq_true, List.cons_append, List.nil_append]
  have h1' := h1
  simp only [lenIs] at h1'
  simp +contextual -implicitDefEqProofs only [traceOk, h1, h1', bne, Bool.not_true, Bool.not_false, Bool.true_and, Bool.false_and, Bool.and_true, Bool.and_false, Bool.true_or, Bool.false_or, Bool.or_true, Bool.or_false, go_sem, eI, eB, ↓reduceIte, Nat.reduceEqDiff, Nat.reduceAdd, Nat.reduceLeDiff, Nat.reduceMul, Nat.reduceBEq, Nat.reduceBneDiff, Nat.reduceLT, Nat.reduceSub, Bool.false_eq_true, List.cons_append, List.nil_append]
  refine callQ_self ?_ (hc1 g h) ?_
  · exact rfl
  simp +contextual -implicitDefEqProofs only [eS, bne, Bool.not_true, Bool.not_false, Bool.true_and, Bool.false_and, Bool.and_true, Bool.and_false, Bool.true_or, Bool.false_or, Bool.or_true, Bool.or_false, go_sem, eI, eB, ↓reduceIte, Nat.reduceEqDiff, Nat.reduceAdd, Nat.reduceLeDiff, Nat.reduceMul, Nat.reduceBEq, Nat.reduceBneDiff, Nat.reduceLT, Nat.reduceSub, Bool.false_eq_true, List.cons_append, List.nil_append]
  refine callQ_self ?_ (hc2 v.1 (atomsOf g) (by omega) (by omega)) ?_
  · exact rfl
  cases h2 : allIn 0 (atomsOf g - 1) v.1.2
  · simp +contextual -implicitDefEqProofs only [h2, eS, bne, Bool.not_true, Bool.not_false, Bool.true_and, Bool.false_and, Bool.and_true, Bool.and_false, Bool.true_or, Bool.false_or, Bool.or_true, Bool.or_false, go_sem, eI, eB, ↓reduceIte, Nat.reduceEqDiff, Nat.reduceAdd, Nat.reduceLeDiff, Nat.reduceMul, Nat.reduceBEq, Nat.reduceBneDiff, Nat.reduceLT, Nat.reduceSub, Bool.false_eq_true, List.cons_append, List.nil_append]
  simp +contextual -implicitDefEqProofs only [h2, eS, bne, Bool.not_true, Bool.not_false, Bool.true_and, Bool.false_and, Bool.and_true, Bool.and_false, Bool.true_or, Bool.false_or, Bool.or_true, Bool.or_false, go_sem, eI, eB, ↓reduceIte, Nat.reduceEqDiff, Nat.reduceAdd, Nat.reduceLeDiff, Nat.reduceMul, Nat.reduceBEq, Nat.reduceBneDiff, Nat.reduceLT, Nat.reduceSub, Bool.false_eq_true, List.cons_append, List.nil_append]
  refine callQ_self ?_ (hc2 v.2 g.2 (by omega) (by omega)) ?_
  · exact rfl
  simp +contextual -implicitDefEqProofs only [h2, eS, bne, Bool.not_true, Bool.not_false, Bool.true_and, Bool.false_and, Bool.and_true, Bool.and_false, Bool.true_or, Bool.false_or, Bool.or_true, Bool.or_false, go_sem, eI, eB, ↓reduceIte, Nat.reduceEqDiff, Nat.reduceAdd, Nat.reduceLeDiff, Nat.reduceMul, Nat.reduceBEq, Nat.reduceBneDiff, Nat.reduceLT, Nat.reduceSub, Bool.false_eq_true, List.cons_append, List.nil_append]

def k_isWord (f1 : Nat) : RC := (.seq (.reg false [⟨none, .box 2 2 (.t 0)⟩, ⟨none, .box 3 2 (.t 1)⟩, ⟨none, .mv 4 (.c (.sc (.bool false)))⟩]) ((.seq (.reg false [⟨none, .fa 5 1 (.t 3)⟩, ⟨none, .ld 6 false 1 (.t 5)⟩, ⟨none, .len 7 (.t 6)⟩, ⟨none, .bin 8 .leq (.t 7) (.c (.sc (.int .i64 10)))⟩, ⟨none, .mv 9 (.t 8)⟩, ⟨some (9, true), .ld 10 true 2 (.t 2)⟩, ⟨some (9, true), .ld 11 true 2 (.t 3)⟩, ⟨some (9, true), .call (some 12) f1 [(.t 10), (.t 11)]⟩, ⟨none, .pick 13 (.t 9) (.t 12) (.c (.sc (.bool false)))⟩, ⟨none, .mv 4 (.t 13)⟩]) (.ret))))
def K_isWord (P : Program) (f : Nat) : Prop := ∀ (g : Int × Int) (v : Wo) (h : okG g = true), AF P f [eG g, eWo v] (.own (eB (okWo g v)))
theorem a_isWord {P : Program} (hm : P.follows .mixedOrders = true) {g f1 : Nat} (hr : resF P g = some (14, k_isWord f1, [.t 4])) (hc1 : K_isTrace P f1) : K_isWord P g := by
  intro g v h
  refine af_of_res hr hm rfl fun hb => ?_
  by_cases h1 : (v.2.2.length : Int) ≤ 10
  · have h10 : v.2.2.length ≤ 1048576 := by omega
    simp +contextual -implicitDefEqProofs only [k_isWord, eG, eWo, eS, List.length_map, okWo, h1, bne, Bool.not_true, Bool.not_false, Bool.true_and, Bool.false_and, Bool.and_true, Bool.and_false, Bool.true_or, Bool.false_or, Bool.or_true, Bool.or_false, go_sem, eI, eB, ↓reduceIte, Nat.reduceEqDiff, Nat.reduceAdd, Nat.reduceLeDiff, Nat.reduceMul, Nat.reduceBEq, Nat.reduceBneDiff, Nat.reduceLT, Nat.reduceSub, Bool.false_eq_true, List.cons_append, List.nil_append]
    refine callQ_self ?_ (hc1 g v h h10) ?_
    · exact rfl
    simp +contextual -implicitDefEqProofs only [h1, bne, Bool.not_true, Bool.not_false, Bool.true_and, Bool.false_and, Bool.and_true, Bool.and_false, Bool.true_or, Bool.false_or, Bool.or_true, Bool.or_false, go_sem, eI, eB, ↓reduceIte, Nat.reduceEqDiff, Nat.reduceAdd, Nat.reduceLeDiff, Nat.reduceMul, Nat.reduceBEq, Nat.reduceBneDiff, Nat.reduceLT, Nat.reduceSub, Bool.false_eq_true, List.cons_append, List.nil_append]
  · simp +contextual -implicitDefEqProofs only [k_isWord, eG, eWo, eS, List.length_map, okWo, h1, bne, Bool.not_true, Bool.not_false, Bool.true_and, Bool.false_and, Bool.and_true, Bool.and_false, Bool.true_or, Bool.false_or, Bool.or_true, Bool.or_false, go_sem, eI, eB, ↓reduceIte, Nat.reduceEqDiff, Nat.reduceAdd, Nat.reduceLeDiff, Nat.reduceMul, Nat.reduceBEq, Nat.reduceBneDiff, Nat.reduceLT, Nat.reduceSub, Bool.false_eq_true, List.cons_append, List.nil_append]

end Go.Ax
