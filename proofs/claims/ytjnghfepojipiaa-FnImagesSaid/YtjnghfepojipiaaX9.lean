/- Contracts of functions of the seat, proved over the engine. No condition. -/
import Derived.Test.YtjnghfepojipiaaX8
set_option linter.unusedSimpArgs false
set_option linter.unusedVariables false
set_option linter.unnecessarySimpa false
namespace Go.Ax
set_option linter.unusedSimpArgs false
set_option maxRecDepth 20000
set_option maxHeartbeats 4000000

def k_kidsOf : RC := (.seq (.reg false [⟨none, .mv 2 (.c (.sc (.int .i64 0)))⟩]) ((.seq ((.seq (.reg false [⟨none, .mv 3 (.t 0)⟩]) (.blk 0 ((.seq ((.seq (.reg false [⟨none, .bin 5 .eql (.t 3) (.c (.sc (.int .i64 1)))⟩, ⟨none, .mv 4 (.t 5)⟩]) (.cond (.t 4) (.skip) ((.seq (.reg false [⟨none, .bin 6 .eql (.t 3) (.c (.sc (.int .i64 2)))⟩, ⟨none, .mv 4 (.t 6)⟩]) (.cond (.t 4) (.skip) ((.seq (.reg false [⟨none, .bin 7 .eql (.t 3) (.c (.sc (.int .i64 3)))⟩, ⟨none, .mv 4 (.t 7)⟩]) (.cond (.t 4) (.skip) (.reg false [⟨none, .bin 8 .eql (.t 3) (.c (.sc (.int .i64 4)))⟩, ⟨none, .mv 4 (.t 8)⟩])))))))))) (.cond (.t 4) ((.seq (.reg false [⟨none, .mv 2 (.c (.sc (.int .i64 0)))⟩]) (.ret))) ((.seq ((.seq (.reg false [⟨none, .bin 10 .eql (.t 3) (.c (.sc (.int .i64 5)))⟩, ⟨none, .mv 9 (.t 10)⟩]) (.cond (.t 9) (.skip) (.reg false [⟨none, .bin 11 .eql (.t 3) (.c (.sc (.int .i64 8)))⟩, ⟨none, .mv 9 (.t 11)⟩])))) (.cond (.t 9) ((.seq (.reg false [⟨none, .mv 2 (.c (.sc (.int .i64 1)))⟩]) (.ret))) ((.seq ((.seq (.reg false [⟨none, .bin 13 .eql (.t 3) (.c (.sc (.int .i64 6)))⟩, ⟨none, .mv 12 (.t 13)⟩]) (.cond (.t 12) (.skip) (.reg false [⟨none, .bin 14 .eql (.t 3) (.c (.sc (.int .i64 7)))⟩, ⟨none, .mv 12 (.t 14)⟩])))) (.cond (.t 12) ((.seq (.reg false [⟨none, .mv 2 (.c (.sc (.int .i64 2)))⟩]) (.ret))) (.skip))))))))))))) ((.seq (.reg false [⟨none, .mv 2 (.c (.sc (.int .i64 (-1))))⟩]) (.ret))))))
def K_kidsOf (P : Program) (f : Nat) : Prop := ∀ (k : Int), AF P f [eI k] (.own (eI (kidsN k)))
theorem a_kidsOf {P : Program} (hm : P.follows .mixedOrders = true) {g : Nat} (hr : resF P g = some (15, k_kidsOf, [.t 2])) : K_kidsOf P g := by
 intro k
 refine af_of_res hr hm rfl fun hb => ?_
 by_cases c1 : k = 1
 ·subst c1
  simp +contextual -implicitDefEqProofs only [k_kidsOf, beq_self_eq_true, go_sem, eI, ↓reduceIte, Nat.reduceEqDiff]
  try exact D.Le.sc_eq (congrArg (Value.int .i64) (by decide))
 have b1 : (k == 1) = false := by simpa using c1
 by_cases c2 : k = 2
 ·subst c2
  simp +contextual -implicitDefEqProofs only [k_kidsOf, Int.reduceBEq, beq_self_eq_true, go_sem, eI, ↓reduceIte, Nat.reduceEqDiff]
  try exact D.Le.sc_eq (congrArg (Value.int .i64) (by decide))
 have b2 : (k == 2) = false := by simpa using c2
 by_cases c3 : k = 3
 ·subst c3
  simp +contextual -implicitDefEqProofs only [k_kidsOf, Int.reduceBEq, beq_self_eq_true, go_sem, eI, ↓reduceIte, Nat.reduceEqDiff]
  try exact D.Le.sc_eq (congrArg (Value.int .i64) (by decide))
 have b3 : (k == 3) = false := by simpa using c3
 by_cases c4 : k = 4
 ·subst c4
  simp +contextual -implicitDefEqProofs only [k_kidsOf, Int.reduceBEq, beq_self_eq_true, go_sem, eI, ↓reduceIte, Nat.reduceEqDiff]
  try exact D.Le.sc_eq (congrArg (Value.int .i64) (by decide))
 have b4 : (k == 4) = false := by simpa using c4
 by_cases c5 : k = 5
 ·subst c5
  simp +contextual -implicitDefEqProofs only [k_kidsOf, Int.reduceBEq, beq_self_eq_true, go_sem, eI, ↓reduceIte, Nat.reduceEqDiff]
  try exact D.Le.sc_eq (congrArg (Value.int .i64) (by decide))
 have b5 : (k == 5) = false := by simpa using c5
 by_cases c8 : k = 8
 ·subst c8
  simp +contextual -implicitDefEqProofs only [k_kidsOf, Int.reduceBEq, beq_self_eq_true, go_sem, eI, ↓reduceIte, Nat.reduceEqDiff]
  try exact D.Le.sc_eq (congrArg (Value.int .i64) (by decide))
 have b8 : (k == 8) = false := by simpa using c8
 by_cases c6 : k = 6
 ·subst c6
  simp +contextual -implicitDefEqProofs only [k_kidsOf, Int.reduceBEq, beq_self_eq_true, go_sem, eI, ↓reduceIte, Nat.reduceEqDiff]
  try exact D.Le.sc_eq (congrArg (Value.int .i64) (by decide))
 have b6 : (k == 6) = false := by simpa using c6
 by_cases c7 : k = 7
 ·subst c7
  simp +contextual -implicitDefEqProofs only [k_kidsOf, Int.reduceBEq, beq_self_eq_true, go_sem, eI, ↓reduceIte, Nat.reduceEqDiff]
  try exact D.Le.sc_eq (congrArg (Value.int .i64) (by decide))
 have b7 : (k == 7) = false := by simpa using c7
 simp +contextual -implicitDefEqProofs only [k_kidsOf, b1, b2, b3, b4, b5, b6, b7, b8, go_sem, eI, ↓reduceIte, Nat.reduceEqDiff]
 exact D.Le.sc_eq (by simp [kidsN, c1, c2, c3, c4, c5, c6, c7, c8])

def k_l01Kids : RC := (.seq (.reg false [⟨none, .mv 2 (.c (.sc (.int .i64 0)))⟩]) ((.seq ((.seq (.reg false [⟨none, .mv 3 (.t 0)⟩]) (.blk 0 ((.seq ((.seq (.reg false [⟨none, .bin 5 .eql (.t 3) (.c (.sc (.int .i64 1)))⟩, ⟨none, .mv 4 (.t 5)⟩]) (.cond (.t 4) (.skip) ((.seq (.reg false [⟨none, .bin 6 .eql (.t 3) (.c (.sc (.int .i64 2)))⟩, ⟨none, .mv 4 (.t 6)⟩]) (.cond (.t 4) (.skip) ((.seq (.reg false [⟨none, .bin 7 .eql (.t 3) (.c (.sc (.int .i64 3)))⟩, ⟨none, .mv 4 (.t 7)⟩]) (.cond (.t 4) (.skip) (.reg false [⟨none, .bin 8 .eql (.t 3) (.c (.sc (.int .i64 4)))⟩, ⟨none, .mv 4 (.t 8)⟩])))))))))) (.cond (.t 4) ((.seq (.reg false [⟨none, .mv 2 (.c (.sc (.int .i64 0)))⟩]) (.ret))) ((.seq ((.seq (.reg false [⟨none, .bin 10 .eql (.t 3) (.c (.sc (.int .i64 5)))⟩, ⟨none, .mv 9 (.t 10)⟩]) (.cond (.t 9) (.skip) (.reg false [⟨none, .bin 11 .eql (.t 3) (.c (.sc (.int .i64 8)))⟩, ⟨none, .mv 9 (.t 11)⟩])))) (.cond (.t 9) ((.seq (.reg false [⟨none, .mv 2 (.c (.sc (.int .i64 1)))⟩]) (.ret))) ((.seq ((.seq (.reg false [⟨none, .bin 13 .eql (.t 3) (.c (.sc (.int .i64 6)))⟩, ⟨none, .mv 12 (.t 13)⟩]) (.cond (.t 12) (.skip) (.reg false [⟨none, .bin 14 .eql (.t 3) (.c (.sc (.int .i64 7)))⟩, ⟨none, .mv 12 (.t 14)⟩])))) (.cond (.t 12) ((.seq (.reg false [⟨none, .mv 2 (.c (.sc (.int .i64 2)))⟩]) (.ret))) (.skip))))))))))))) ((.seq (.reg false [⟨none, .mv 2 (.c (.sc (.int .i64 (-1))))⟩]) (.ret))))))
def K_l01Kids (P : Program) (f : Nat) : Prop := ∀ (k : Int), AF P f [eI k] (.own (eI (kidsN k)))
theorem a_l01Kids {P : Program} (hm : P.follows .mixedOrders = true) {g : Nat} (hr : resF P g = some (15, k_l01Kids, [.t 2])) : K_l01Kids P g := by
 intro k
 refine af_of_res hr hm rfl fun hb => ?_
 by_cases c1 : k = 1
 ·subst c1
  simp +contextual -implicitDefEqProofs only [k_l01Kids, beq_self_eq_true, go_sem, eI, ↓reduceIte, Nat.reduceEqDiff]
  try exact D.Le.sc_eq (congrArg (Value.int .i64) (by decide))
 have b1 : (k == 1) = false := by simpa using c1
 by_cases c2 : k = 2
 ·subst c2
  simp +contextual -implicitDefEqProofs only [k_l01Kids, Int.reduceBEq, beq_self_eq_true, go_sem, eI, ↓reduceIte, Nat.reduceEqDiff]
  try exact D.Le.sc_eq (congrArg (Value.int .i64) (by decide))
 have b2 : (k == 2) = false := by simpa using c2
 by_cases c3 : k = 3
 ·subst c3
  simp +contextual -implicitDefEqProofs only [k_l01Kids, Int.reduceBEq, beq_self_eq_true, go_sem, eI, ↓reduceIte, Nat.reduceEqDiff]
  try exact D.Le.sc_eq (congrArg (Value.int .i64) (by decide))
 have b3 : (k == 3) = false := by simpa using c3
 by_cases c4 : k = 4
 ·subst c4
  simp +contextual -implicitDefEqProofs only [k_l01Kids, Int.reduceBEq, beq_self_eq_true, go_sem, eI, ↓reduceIte, Nat.reduceEqDiff]
  try exact D.Le.sc_eq (congrArg (Value.int .i64) (by decide))
 have b4 : (k == 4) = false := by simpa using c4
 by_cases c5 : k = 5
 ·subst c5
  simp +contextual -implicitDefEqProofs only [k_l01Kids, Int.reduceBEq, beq_self_eq_true, go_sem, eI, ↓reduceIte, Nat.reduceEqDiff]
  try exact D.Le.sc_eq (congrArg (Value.int .i64) (by decide))
 have b5 : (k == 5) = false := by simpa using c5
 by_cases c8 : k = 8
 ·subst c8
  simp +contextual -implicitDefEqProofs only [k_l01Kids, Int.reduceBEq, beq_self_eq_true, go_sem, eI, ↓reduceIte, Nat.reduceEqDiff]
  try exact D.Le.sc_eq (congrArg (Value.int .i64) (by decide))
 have b8 : (k == 8) = false := by simpa using c8
 by_cases c6 : k = 6
 ·subst c6
  simp +contextual -implicitDefEqProofs only [k_l01Kids, Int.reduceBEq, beq_self_eq_true, go_sem, eI, ↓reduceIte, Nat.reduceEqDiff]
  try exact D.Le.sc_eq (congrArg (Value.int .i64) (by decide))
 have b6 : (k == 6) = false := by simpa using c6
 by_cases c7 : k = 7
 ·subst c7
  simp +contextual -implicitDefEqProofs only [k_l01Kids, Int.reduceBEq, beq_self_eq_true, go_sem, eI, ↓reduceIte, Nat.reduceEqDiff]
  try exact D.Le.sc_eq (congrArg (Value.int .i64) (by decide))
 have b7 : (k == 7) = false := by simpa using c7
 simp +contextual -implicitDefEqProofs only [k_l01Kids, b1, b2, b3, b4, b5, b6, b7, b8, go_sem, eI, ↓reduceIte, Nat.reduceEqDiff]
 exact D.Le.sc_eq (by simp [kidsN, c1, c2, c3, c4, c5, c6, c7, c8])

def k_isCondition (g : Nat) : RC := (.seq (.reg false [⟨none, .box 1 3 (.t 0)⟩, ⟨none, .mv 2 (.c (.sc (.bool false)))⟩]) ((.seq ((.seq (.reg false [⟨none, .fa 5 0 (.t 1)⟩, ⟨none, .ld 6 false 1 (.t 5)⟩]) (.blk 0 ((.seq ((.seq (.reg false [⟨none, .bin 8 .eql (.t 6) (.c (.sc (.int .i64 1)))⟩, ⟨none, .mv 7 (.t 8)⟩]) (.cond (.t 7) (.skip) ((.seq (.reg false [⟨none, .bin 9 .eql (.t 6) (.c (.sc (.int .i64 2)))⟩, ⟨none, .mv 7 (.t 9)⟩]) (.cond (.t 7) (.skip) ((.seq (.reg false [⟨none, .bin 10 .eql (.t 6) (.c (.sc (.int .i64 3)))⟩, ⟨none, .mv 7 (.t 10)⟩]) (.cond (.t 7) (.skip) ((.seq (.reg false [⟨none, .bin 11 .eql (.t 6) (.c (.sc (.int .i64 5)))⟩, ⟨none, .mv 7 (.t 11)⟩]) (.cond (.t 7) (.skip) ((.seq (.reg false [⟨none, .bin 12 .eql (.t 6) (.c (.sc (.int .i64 6)))⟩, ⟨none, .mv 7 (.t 12)⟩]) (.cond (.t 7) (.skip) (.reg false [⟨none, .bin 13 .eql (.t 6) (.c (.sc (.int .i64 7)))⟩, ⟨none, .mv 7 (.t 13)⟩])))))))))))))))) (.cond (.t 7) (.skip) ((.seq (.reg false [⟨none, .mv 2 (.c (.sc (.bool false)))⟩]) (.ret))))))))) ((.seq ((.seq (.reg false [⟨none, .fa 14 2 (.t 1)⟩, ⟨none, .ld 15 false 1 (.t 14)⟩, ⟨none, .len 16 (.t 15)⟩, ⟨none, .mv 17 (.c (.sc (.int .i64 0)))⟩]) (.blk 1 (.loop ((.seq (.reg false [⟨none, .bin 18 .lss (.t 17) (.t 16)⟩]) ((.seq (.cond (.t 18) (.skip) (.exit 1)) ((.seq (.blk 2 ((.seq (.reg false [⟨none, .ia 19 3 (.t 15) (.t 17)⟩, ⟨none, .ld 20 true 3 (.t 19)⟩, ⟨none, .zer 4 3 (.ag [(.sc (.int .i64 0)), (.sc (.int .i64 0)), (.ls (some true) 3 [])])⟩, ⟨none, .st 3 (.t 4) (.t 20)⟩]) ((.seq (.reg false [⟨none, .ld 21 true 3 (.t 4)⟩, ⟨none, .call (some 22) g [(.t 21)]⟩, ⟨none, .un 23 .not (.t 22)⟩]) (.cond (.t 23) ((.seq (.reg false [⟨none, .mv 2 (.c (.sc (.bool false)))⟩]) (.ret))) (.skip))))))) (.reg false [⟨none, .bin 24 .add (.t 17) (.c (.sc (.int .i64 1)))⟩, ⟨none, .mv 17 (.t 24)⟩]))))))))))) ((.seq (.reg false [⟨none, .mv 2 (.c (.sc (.bool true)))⟩]) (.ret))))))))
def K_isCondition (P : Program) (f : Nat) : Prop := ∀ (e : Ex), AF P f [eE e] (.own (eB (condE e)))
theorem a_isCondition {P : Program} (hm : P.follows .mixedOrders = true) {g : Nat} (hr : resF P g = some (25, k_isCondition g, [.t 2])) : K_isCondition P g := by
 intro e
 refine Ex.ind (p := fun e => AF P g [eE e] (.own (eB (condE e)))) (fun k n nn ks ih => ?_) e
 rw [eE_mk, condE_mk]
 refine af_of_res hr hm rfl fun hb => ?_
 have hl : ks.length ≤ 9223372036854775807 := by
  have := hb.1
  simp only [D.bd, D.bdL, List.length_map, maxEl] at this
  exact this.2.2.1.1
 cases hk : isCondK k
 ·have hk' := hk
  simp only [isCondK, Bool.or_eq_false_iff] at hk'
  obtain ⟨k1, k2, k3, k5, k6, k7⟩ := hk'
  simp +contextual -implicitDefEqProofs only [k_isCondition, k1, k2, k3, k5, k6, k7, Bool.false_and, Bool.and_true, go_sem, eB, ↓reduceIte, Nat.reduceEqDiff, Nat.reduceAdd, Nat.reduceLeDiff, Nat.reduceLT]
 have hk' : k = 1 ∨ k = 2 ∨ k = 3 ∨ k = 5 ∨ k = 6 ∨ k = 7 := by simpa [isCondK] using hk
 rcases hk' with h | h | h | h | h | h
 all_goals
  subst h
  simp +contextual -implicitDefEqProofs only [k_isCondition, Int.reduceBEq, beq_self_eq_true, Bool.true_and, Bool.and_true, go_sem, eB, ↓reduceIte, Nat.reduceEqDiff, Nat.reduceAdd, Nat.reduceLeDiff, Nat.reduceLT]
  refine vc_on (α := Nat) [2, 4, 17, 18, 19, 20, 21, 22, 23, 24] (fun i => [(17, .im none (.sc (.int .i64 i)))]) (fun i => i ≤ ks.length ∧ (ks.take i).all condE = true) (fun i => ks.length - i) 0 (by simp only [subEnv, go_sem, ↓reduceIte]; simp) ⟨Nat.zero_le _, rfl⟩ ?_
  rintro i ⟨j1, j2⟩
  by_cases hi : i < ks.length
  ·have e1 := at_map (f := eE) hi
   cases n1 : (eE ks[i]).noPtr
   all_goals
    simp +contextual -implicitDefEqProofs only [e1, hi, encE.sub, eE_size, eE_isAg, Int.ofNat_lt, List.length_map, Int.natCast_nonneg, Nat.zero_lt_one, n1, bne, Bool.not_false, Bool.and_true, go_sem, ↓reduceIte, Nat.reduceEqDiff, Nat.reduceAdd, Nat.reduceLeDiff, Nat.reduceBEq]
    refine callQ_self ?_ (ih ks[i] (List.getElem_mem _)) ?_
    ·exact rfl
    cases hx : condE ks[i]
    ·simp +contextual -implicitDefEqProofs only [Bool.not_false, go_sem, eB, ↓reduceIte]
     exact D.Le.sc_eq (by rw [all_fail hi hx])
    ·simp +contextual -implicitDefEqProofs only [Bool.not_true, go_sem, eB, ↓reduceIte, Nat.reduceEqDiff]
     rw [wrap_i64 (by omega) (by omega)]
     exact ⟨i + 1, ⟨by omega, all_take_succ hi j2 hx⟩, by omega, Ent.delEnv 4 (by simp only [go_sem, ↓reduceIte, Nat.reduceEqDiff, killU, U.kill]) (by simp only [subEnv, go_sem, ↓reduceIte, Nat.reduceEqDiff, Nat.reduceBEq, killE, AV.refs]; simp)⟩
  ·simp +contextual -implicitDefEqProofs only [hi, Int.ofNat_lt, go_sem, ↓reduceIte, Nat.reduceEqDiff]
   exact D.Le.sc_eq (by rw [all_of_take hi j2])
theorem shE_some {g : Int × Int} {e : Ex} {N d m : Int} (hN : 0 ≤ N) (hd : 0 ≤ d) (h : shE g e N d = some m) : 0 ≤ m ∧ m ≤ N := by
 rw [shE_iff g e N d hN hd] at h
 unfold ok3 at h
 split at h
 ·next hc => injection h with h; omega
 ·cases h
theorem shEs_step {g : Int × Int} {ks : List Ex} {i : Nat} (hi : i < ks.length) (m d : Int) : shEs g (ks.drop i) m d = match shE g ks[i] m d with | none => none | some q => shEs g (ks.drop (i + 1)) q d := by
 rw [List.drop_eq_getElem_cons hi, shEs]
 first | done | rfl

def k_shaped (g f1 f2 f3 : Nat) : RC := (.seq (.reg false [⟨none, .box 4 2 (.t 0)⟩, ⟨none, .box 5 3 (.t 1)⟩, ⟨none, .mv 8 (.c (.sc (.int .i64 0)))⟩, ⟨none, .mv 9 (.c (.sc (.bool false)))⟩]) ((.seq ((.seq (.reg true [⟨none, .mv 14 (.t 2)⟩, ⟨none, .bin 15 .eql (.t 14) (.c (.sc (.int .i64 0)))⟩, ⟨none, .mv 16 (.t 15)⟩, ⟨some (16, false), .mv 17 (.t 3)⟩, ⟨some (16, false), .bin 18 .eql (.t 17) (.c (.sc (.int .i64 0)))⟩, ⟨none, .pick 19 (.t 16) (.c (.sc (.bool true))) (.t 18)⟩, ⟨none, .mv 20 (.t 19)⟩, ⟨some (20, false), .fa 21 0 (.t 5)⟩, ⟨some (20, false), .ld 22 false 1 (.t 21)⟩, ⟨some (20, false), .call (some 23) f1 [(.t 22)]⟩, ⟨some (20, false), .fa 24 2 (.t 5)⟩, ⟨some (20, false), .ld 25 false 1 (.t 24)⟩, ⟨some (20, false), .len 26 (.t 25)⟩, ⟨some (20, false), .bin 27 .neq (.t 23) (.t 26)⟩, ⟨none, .pick 28 (.t 20) (.c (.sc (.bool true))) (.t 27)⟩]) (.cond (.t 28) ((.seq (.reg false [⟨none, .mv 8 (.c (.sc (.int .i64 0)))⟩, ⟨none, .mv 9 (.c (.sc (.bool false)))⟩]) (.ret))) (.skip)))) ((.seq ((.seq (.reg false [⟨none, .fa 29 0 (.t 5)⟩, ⟨none, .ld 30 false 1 (.t 29)⟩]) (.blk 0 ((.seq (.reg false [⟨none, .bin 35 .eql (.t 30) (.c (.sc (.int .i64 3)))⟩, ⟨none, .mv 34 (.t 35)⟩]) (.cond (.t 34) ((.seq (.reg false [⟨none, .fa 36 1 (.t 5)⟩, ⟨none, .ld 37 false 1 (.t 36)⟩, ⟨none, .fa 38 0 (.t 4)⟩, ⟨none, .ld 39 false 1 (.t 38)⟩, ⟨none, .bin 40 .sub (.t 39) (.c (.sc (.int .i64 1)))⟩, ⟨none, .call (some 41) f2 [(.t 37), (.c (.sc (.int .i64 0))), (.t 40)]⟩, ⟨none, .un 42 .not (.t 41)⟩]) (.cond (.t 42) ((.seq (.reg false [⟨none, .mv 8 (.c (.sc (.int .i64 0)))⟩, ⟨none, .mv 9 (.c (.sc (.bool false)))⟩]) (.ret))) (.skip)))) ((.seq (.reg false [⟨none, .bin 44 .eql (.t 30) (.c (.sc (.int .i64 4)))⟩, ⟨none, .mv 43 (.t 44)⟩]) (.cond (.t 43) ((.seq (.reg false [⟨none, .fa 45 1 (.t 5)⟩, ⟨none, .ld 46 false 1 (.t 45)⟩, ⟨none, .fa 47 1 (.t 4)⟩, ⟨none, .ld 48 false 1 (.t 47)⟩, ⟨none, .bin 49 .sub (.t 48) (.c (.sc (.int .i64 1)))⟩, ⟨none, .call (some 50) f2 [(.t 46), (.c (.sc (.int .i64 0))), (.t 49)]⟩, ⟨none, .un 51 .not (.t 50)⟩]) (.cond (.t 51) ((.seq (.reg false [⟨none, .mv 8 (.c (.sc (.int .i64 0)))⟩, ⟨none, .mv 9 (.c (.sc (.bool false)))⟩]) (.ret))) (.skip)))) ((.seq (.reg false [⟨none, .fa 31 1 (.t 5)⟩, ⟨none, .ld 32 false 1 (.t 31)⟩, ⟨none, .bin 33 .neq (.t 32) (.c (.sc (.int .i64 0)))⟩]) (.cond (.t 33) ((.seq (.reg false [⟨none, .mv 8 (.c (.sc (.int .i64 0)))⟩, ⟨none, .mv 9 (.c (.sc (.bool false)))⟩]) (.ret))) (.skip))))))))))))) ((.seq ((.seq (.reg false [⟨none, .fa 52 0 (.t 5)⟩, ⟨none, .ld 53 false 1 (.t 52)⟩, ⟨none, .bin 54 .eql (.t 53) (.c (.sc (.int .i64 5)))⟩, ⟨none, .mv 55 (.t 54)⟩, ⟨some (55, true), .fa 56 2 (.t 5)⟩, ⟨some (55, true), .ld 57 false 1 (.t 56)⟩, ⟨some (55, true), .ia 58 3 (.t 57) (.c (.sc (.int .i64 0)))⟩, ⟨some (55, true), .ld 59 true 3 (.t 58)⟩, ⟨some (55, true), .call (some 60) f3 [(.t 59)]⟩, ⟨some (55, true), .un 61 .not (.t 60)⟩, ⟨none, .pick 62 (.t 55) (.t 61) (.c (.sc (.bool false)))⟩]) (.cond (.t 62) ((.seq (.reg false [⟨none, .mv 8 (.c (.sc (.int .i64 0)))⟩, ⟨none, .mv 9 (.c (.sc (.bool false)))⟩]) (.ret))) (.skip)))) ((.seq (.reg false [⟨none, .mv 63 (.t 2)⟩, ⟨none, .bin 64 .sub (.t 63) (.c (.sc (.int .i64 1)))⟩, ⟨none, .mv 2 (.t 64)⟩]) ((.seq ((.seq (.reg false [⟨none, .fa 65 2 (.t 5)⟩, ⟨none, .ld 66 false 1 (.t 65)⟩, ⟨none, .len 67 (.t 66)⟩, ⟨none, .mv 68 (.c (.sc (.int .i64 0)))⟩]) (.blk 1 (.loop ((.seq (.reg false [⟨none, .bin 69 .lss (.t 68) (.t 67)⟩]) ((.seq (.cond (.t 69) (.skip) (.exit 1)) ((.seq (.blk 2 ((.seq (.reg false [⟨none, .ia 70 3 (.t 66) (.t 68)⟩, ⟨none, .ld 71 true 3 (.t 70)⟩, ⟨none, .zer 11 3 (.ag [(.sc (.int .i64 0)), (.sc (.int .i64 0)), (.ls (some true) 3 [])])⟩, ⟨none, .st 3 (.t 11) (.t 71)⟩]) ((.seq (.reg false [⟨none, .ld 73 true 2 (.t 4)⟩, ⟨none, .ld 74 true 3 (.t 11)⟩, ⟨none, .mv 75 (.t 2)⟩, ⟨none, .mv 76 (.t 3)⟩, ⟨none, .bin 77 .sub (.t 76) (.c (.sc (.int .i64 1)))⟩, ⟨none, .call (some 78) g [(.t 73), (.t 74), (.t 75), (.t 77)]⟩, ⟨none, .mv 72 (.t 78)⟩, ⟨none, .ext 79 (.t 72) 0⟩, ⟨none, .ext 80 (.t 72) 1⟩, ⟨none, .mv 12 (.t 79)⟩, ⟨none, .mv 13 (.t 80)⟩]) ((.seq ((.seq (.reg false [⟨none, .mv 81 (.t 13)⟩, ⟨none, .un 82 .not (.t 81)⟩]) (.cond (.t 82) ((.seq (.reg false [⟨none, .mv 8 (.c (.sc (.int .i64 0)))⟩, ⟨none, .mv 9 (.c (.sc (.bool false)))⟩]) (.ret))) (.skip)))) (.reg false [⟨none, .mv 83 (.t 12)⟩, ⟨none, .mv 2 (.t 83)⟩])))))))) (.reg false [⟨none, .bin 84 .add (.t 68) (.c (.sc (.int .i64 1)))⟩, ⟨none, .mv 68 (.t 84)⟩]))))))))))) ((.seq (.reg false [⟨none, .mv 85 (.t 2)⟩, ⟨none, .mv 8 (.t 85)⟩, ⟨none, .mv 9 (.c (.sc (.bool true)))⟩]) (.ret))))))))))))))
def K_shaped (P : Program) (f : Nat) : Prop := ∀ (g : Int × Int) (e : Ex) (N d : Int) (h1 : 0 ≤ N) (h2 : N ≤ 1048576) (h3 : 0 ≤ d) (h4 : d ≤ 1048576), AF P f [eG g, eE e, eI N, eI d] (.tup ([.own (eI ((shE g e N d).getD 0)), .own (eB (shE g e N d).isSome)]))
theorem a_shaped {P : Program} (hm : P.follows .mixedOrders = true) {g f1 f2 f3 : Nat} (hr : resF P g = some (86, k_shaped g f1 f2 f3, [.t 8, .t 9])) (hc1 : K_kidsOf P f1) (hc2 : K_within P f2) (hc3 : K_isCondition P f3) : K_shaped P g := by
 intro g e N d h1 h2 h3 h4
 rename_i gg
 revert N d
 refine Ex.ind (p := fun e => ∀ N d : Int, 0 ≤ N → N ≤ 1048576 → 0 ≤ d → d ≤ 1048576 → AF P gg [eG g, eE e, eI N, eI d] (.tup [.own (eI ((shE g e N d).getD 0)), .own (eB (shE g e N d).isSome)])) (fun k n nn ks ih N d h1 h2 h3 h4 => ?_) e
 have hv := shE_mk g k n nn ks N d
 rw [eE_mk]
 refine af_of_res hr hm rfl fun hb => ?_
 have hl : ks.length ≤ 9223372036854775807 := by
  have := hb.2.1
  simp only [D.bd, D.bdL, List.length_map, maxEl] at this
  exact this.2.2.1.1
 cases b1 : (N == 0)
 case true =>
  have hn := hv.trans (if_pos (.inl (by simpa using b1)))
  simp +contextual -implicitDefEqProofs only [k_shaped, eG, b1, bne, Bool.not_false, Bool.and_true, go_sem, eI, eB, ↓reduceIte, Nat.reduceEqDiff, Nat.reduceAdd, Nat.reduceBEq, Nat.reduceLT]
  exact ⟨D.Le.sc_eq (by rw [hn]; rfl), D.Le.sc_eq (by rw [hn]; rfl)⟩
 have b1' : ¬ N = 0 := by simpa using b1
 cases b2 : (d == 0)
 case true =>
  have hn := hv.trans (if_pos (.inr (.inl (by simpa using b2))))
  simp +contextual -implicitDefEqProofs only [k_shaped, eG, b1, b2, bne, Bool.not_false, Bool.and_true, go_sem, eI, eB, ↓reduceIte, Nat.reduceEqDiff, Nat.reduceAdd, Nat.reduceBEq, Nat.reduceLT]
  exact ⟨D.Le.sc_eq (by rw [hn]; rfl), D.Le.sc_eq (by rw [hn]; rfl)⟩
 have b2' : ¬ d = 0 := by simpa using b2
 simp +contextual -implicitDefEqProofs only [k_shaped, eG, b1, b2, bne, Bool.not_false, Bool.and_true, go_sem, eI, eB, ↓reduceIte, Nat.reduceEqDiff, Nat.reduceAdd, Nat.reduceLeDiff, Nat.reduceBEq, Nat.reduceLT]
 refine callQ_self ?_ (hc1 k) ?_
 ·exact rfl
 cases hk : (kidsN k == (ks.length : Int))
 ·simp +contextual -implicitDefEqProofs only [hk, List.length_map, bne, Bool.not_false, go_sem, eI, ↓reduceIte, Nat.reduceEqDiff, Nat.reduceAdd, Nat.reduceLeDiff, Nat.reduceLT]
  exact ⟨D.Le.sc_eq (by rw [(hv.trans (if_pos (.inr (.inr (by simp [formOk, hk])))))]; rfl), D.Le.sc_eq (by rw [(hv.trans (if_pos (.inr (.inr (by simp [formOk, hk])))))]; rfl)⟩
 have hk' : kidsN k = ks.length := by simpa using hk
 by_cases c3 : k = 3
 ·subst c3
  simp +contextual -implicitDefEqProofs only [hk, List.length_map, beq_self_eq_true, bne, Bool.not_true, go_sem, eI, ↓reduceIte, Nat.reduceEqDiff, Nat.reduceAdd, Nat.reduceLeDiff, Nat.reduceLT]
  refine callQ_self ?_ (hc2 n 0 (IntKind.i64.wrap (g.1 - 1))) ?_
  ·exact rfl
  cases hw : isIn n 0 (IntKind.i64.wrap (g.1 - 1))
  ·simp +contextual -implicitDefEqProofs only [Bool.not_false, go_sem, eB, ↓reduceIte, Nat.reduceEqDiff]
   exact ⟨D.Le.sc_eq (by rw [(hv.trans (if_pos (.inr (.inr (by simp [formOk, hk, hw])))))]; rfl), D.Le.sc_eq (by rw [(hv.trans (if_pos (.inr (.inr (by simp [formOk, hk, hw])))))]; rfl)⟩
  simp +contextual -implicitDefEqProofs only [List.length_map, Int.reduceBEq, Bool.not_true, go_sem, eB, ↓reduceIte, Nat.reduceEqDiff, Nat.reduceAdd, Nat.reduceLeDiff, Nat.reduceLT]
  have hF : formOk g 3 n ks = true := by simp [formOk, hk, hw]
  have hne : ¬ (N = 0 ∨ d = 0 ∨ formOk g 3 n ks = false) := by rw [hF]; simp; omega
  rw [hv, if_neg hne]
  rw [wrap_i64 (x := N - 1) (by omega) (by omega)]
  refine vc_on (α := Nat × Int) [2, 8, 9, 11, 12, 13, 68, 69, 70, 71, 72, 73, 74, 75, 76, 77, 78, 79, 80, 81, 82, 83, 84] (fun x => [(68, .im none (.sc (.int .i64 x.1))), (2, .im none (.sc (.int .i64 x.2)))]) (fun x => x.1 ≤ ks.length ∧ 0 ≤ x.2 ∧ x.2 ≤ N ∧ shEs g (ks.drop x.1) x.2 (d - 1) = shEs g ks (N - 1) (d - 1)) (fun x => ks.length - x.1) (0, N - 1) (by simp only [subEnv, go_sem, ↓reduceIte, Nat.reduceEqDiff]; simp) ⟨Nat.zero_le _, by simp only; omega, by simp only; omega, rfl⟩ ?_
  rintro ⟨i, m⟩ j
  simp only at j
  obtain ⟨j1, j2, j3, j4⟩ := j
  by_cases hi : i < ks.length
  ·have e1 := at_map (f := eE) hi
   rw [shEs_step hi] at j4
   cases n1 : (eE ks[i]).noPtr
   all_goals
    simp +contextual -implicitDefEqProofs only [e1, hi, encE.sub, eE_size, eE_isAg, Int.ofNat_lt, List.length_map, Int.natCast_nonneg, Nat.zero_lt_one, n1, bne, Bool.not_false, Bool.and_true, go_sem, ↓reduceIte, Nat.reduceEqDiff, Nat.reduceAdd, Nat.reduceLeDiff, Nat.reduceBEq]
    rw [wrap_i64 (x := d - 1) (by omega) (by omega)]
    refine callQ_self ?_ (ih ks[i] (List.getElem_mem _) m (d - 1) j2 (by omega) (by omega) (by omega)) ?_
    ·exact rfl
    cases hx : shE g ks[i] m (d - 1) with
    | none =>
     rw [hx] at j4
     simp +contextual -implicitDefEqProofs only [Option.getD_none, Option.isSome_none, Bool.not_false, go_sem, eI, eB, ↓reduceIte, Nat.reduceEqDiff, Nat.reduceAdd, Nat.reduceLT]
     exact ⟨D.Le.sc_eq (by rw [← j4]; rfl), D.Le.sc_eq (by rw [← j4]; rfl)⟩
    | some q =>
     rw [hx] at j4
     have hq := shE_some j2 (by omega) hx
     simp +contextual -implicitDefEqProofs only [Option.getD_some, Option.isSome_some, Bool.not_true, go_sem, eI, eB, ↓reduceIte, Nat.reduceEqDiff, Nat.reduceAdd, Nat.reduceLT]
     rw [wrap_i64 (by omega) (by omega)]
     exact ⟨(i + 1, q), ⟨by simp only; omega, hq.1, by simp only; omega, j4⟩, by simp only; omega, Ent.delEnv 11 (by simp only [go_sem, ↓reduceIte, Nat.reduceEqDiff, killU, U.kill]) (by simp only [subEnv, go_sem, ↓reduceIte, Nat.reduceEqDiff, Nat.reduceBEq, killE, AV.refs]; simp)⟩
  ·simp +contextual -implicitDefEqProofs only [hi, Int.ofNat_lt, go_sem, ↓reduceIte, Nat.reduceEqDiff]
   rw [List.drop_eq_nil_of_le (by omega), shEs] at j4
   exact ⟨D.Le.sc_eq (by rw [← j4]; rfl), D.Le.sc_eq (by rw [← j4]; rfl)⟩
 have b3 : (k == 3) = false := by simpa using c3
 by_cases c4 : k = 4
 ·subst c4
  simp +contextual -implicitDefEqProofs only [hk, List.length_map, Int.reduceBEq, beq_self_eq_true, bne, Bool.not_true, go_sem, eI, ↓reduceIte, Nat.reduceEqDiff, Nat.reduceAdd, Nat.reduceLeDiff, Nat.reduceLT]
  refine callQ_self ?_ (hc2 n 0 (IntKind.i64.wrap (g.2 - 1))) ?_
  ·exact rfl
  cases hw : isIn n 0 (IntKind.i64.wrap (g.2 - 1))
  ·simp +contextual -implicitDefEqProofs only [Bool.not_false, go_sem, eB, ↓reduceIte, Nat.reduceEqDiff]
   exact ⟨D.Le.sc_eq (by rw [(hv.trans (if_pos (.inr (.inr (by simp [formOk, hk, hw])))))]; rfl), D.Le.sc_eq (by rw [(hv.trans (if_pos (.inr (.inr (by simp [formOk, hk, hw])))))]; rfl)⟩
  simp +contextual -implicitDefEqProofs only [List.length_map, Int.reduceBEq, Bool.not_true, go_sem, eB, ↓reduceIte, Nat.reduceEqDiff, Nat.reduceAdd, Nat.reduceLeDiff, Nat.reduceLT]
  have hF : formOk g 4 n ks = true := by simp [formOk, hk, hw]
  have hne : ¬ (N = 0 ∨ d = 0 ∨ formOk g 4 n ks = false) := by rw [hF]; simp; omega
  rw [hv, if_neg hne]
  rw [wrap_i64 (x := N - 1) (by omega) (by omega)]
  refine vc_on (α := Nat × Int) [2, 8, 9, 11, 12, 13, 68, 69, 70, 71, 72, 73, 74, 75, 76, 77, 78, 79, 80, 81, 82, 83, 84] (fun x => [(68, .im none (.sc (.int .i64 x.1))), (2, .im none (.sc (.int .i64 x.2)))]) (fun x => x.1 ≤ ks.length ∧ 0 ≤ x.2 ∧ x.2 ≤ N ∧ shEs g (ks.drop x.1) x.2 (d - 1) = shEs g ks (N - 1) (d - 1)) (fun x => ks.length - x.1) (0, N - 1) (by simp only [subEnv, go_sem, ↓reduceIte, Nat.reduceEqDiff]; simp) ⟨Nat.zero_le _, by simp only; omega, by simp only; omega, rfl⟩ ?_
  rintro ⟨i, m⟩ j
  simp only at j
  obtain ⟨j1, j2, j3, j4⟩ := j
  by_cases hi : i < ks.length
  ·have e1 := at_map (f := eE) hi
   rw [shEs_step hi] at j4
   cases n1 : (eE ks[i]).noPtr
   all_goals
    simp +contextual -implicitDefEqProofs only [e1, hi, encE.sub, eE_size, eE_isAg, Int.ofNat_lt, List.length_map, Int.natCast_nonneg, Nat.zero_lt_one, n1, bne, Bool.not_false, Bool.and_true, go_sem, ↓reduceIte, Nat.reduceEqDiff, Nat.reduceAdd, Nat.reduceLeDiff, Nat.reduceBEq]
    rw [wrap_i64 (x := d - 1) (by omega) (by omega)]
    refine callQ_self ?_ (ih ks[i] (List.getElem_mem _) m (d - 1) j2 (by omega) (by omega) (by omega)) ?_
    ·exact rfl
    cases hx : shE g ks[i] m (d - 1) with
    | none =>
     rw [hx] at j4
     simp +contextual -implicitDefEqProofs only [Option.getD_none, Option.isSome_none, Bool.not_false, go_sem, eI, eB, ↓reduceIte, Nat.reduceEqDiff, Nat.reduceAdd, Nat.reduceLT]
     exact ⟨D.Le.sc_eq (by rw [← j4]; rfl), D.Le.sc_eq (by rw [← j4]; rfl)⟩
    | some q =>
     rw [hx] at j4
     have hq := shE_some j2 (by omega) hx
     simp +contextual -implicitDefEqProofs only [Option.getD_some, Option.isSome_some, Bool.not_true, go_sem, eI, eB, ↓reduceIte, Nat.reduceEqDiff, Nat.reduceAdd, Nat.reduceLT]
     rw [wrap_i64 (by omega) (by omega)]
     exact ⟨(i + 1, q), ⟨by simp only; omega, hq.1, by simp only; omega, j4⟩, by simp only; omega, Ent.delEnv 11 (by simp only [go_sem, ↓reduceIte, Nat.reduceEqDiff, killU, U.kill]) (by simp only [subEnv, go_sem, ↓reduceIte, Nat.reduceEqDiff, Nat.reduceBEq, killE, AV.refs]; simp)⟩
  ·simp +contextual -implicitDefEqProofs only [hi, Int.ofNat_lt, go_sem, ↓reduceIte, Nat.reduceEqDiff]
   rw [List.drop_eq_nil_of_le (by omega), shEs] at j4
   exact ⟨D.Le.sc_eq (by rw [← j4]; rfl), D.Le.sc_eq (by rw [← j4]; rfl)⟩
 have b4 : (k == 4) = false := by simpa using c4
 cases hn : (n == 0)
 ·simp +contextual -implicitDefEqProofs only [hk, b3, b4, hn, List.length_map, bne, Bool.not_true, Bool.not_false, go_sem, eI, ↓reduceIte, Nat.reduceEqDiff, Nat.reduceAdd, Nat.reduceLeDiff, Nat.reduceLT]
  exact ⟨D.Le.sc_eq (by rw [(hv.trans (if_pos (.inr (.inr (by simp [formOk, hk, hn, c3, c4])))))]; rfl), D.Le.sc_eq (by rw [(hv.trans (if_pos (.inr (.inr (by simp [formOk, hk, hn, c3, c4])))))]; rfl)⟩
 by_cases c5 : k = 5
 ·subst c5
  have hlen : ks.length = 1 := by have : (1 : Int) = ks.length := hk'; omega
  have h0 : 0 < ks.length := by omega
  have e0 : D.at (ks.map eE) 0 = eE ks[0] := at_map h0
  have hks : ks = [ks[0]] := by
   match ks, hlen with
   | [x], _ => rfl
  have d0 : (0 : Int) < (ks.length : Int) := by omega
  simp +contextual -implicitDefEqProofs only [hk, hn, e0, d0, encE.sub, eE_size, eE_isAg, List.length_map, Int.reduceBEq, beq_self_eq_true, bne, Bool.not_true, go_sem, eI, ↓reduceIte, Nat.reduceEqDiff, Nat.reduceAdd, Nat.reduceLeDiff, Nat.reduceLT]
  have hh := headC_get h0
  refine ⟨Int.le_refl 0, callQ_self ?_ (hc3 ks[0]) ?_⟩
  ·exact rfl
  cases hc : condE ks[0]
  ·rw [hc] at hh
   simp +contextual -implicitDefEqProofs only [Bool.not_false, go_sem, eB, ↓reduceIte, Nat.reduceEqDiff]
   exact ⟨D.Le.sc_eq (by rw [(hv.trans (if_pos (.inr (.inr (by simp [formOk, hk, hn, hh])))))]; rfl), D.Le.sc_eq (by rw [(hv.trans (if_pos (.inr (.inr (by simp [formOk, hk, hn, hh])))))]; rfl)⟩
  rw [hc] at hh
  simp +contextual -implicitDefEqProofs only [List.length_map, Bool.not_true, go_sem, eB, ↓reduceIte, Nat.reduceEqDiff, Nat.reduceAdd, Nat.reduceLeDiff, Nat.reduceLT]
  have hF : formOk g 5 n ks = true := by simp [formOk, hk, hn, hh]
  have hne : ¬ (N = 0 ∨ d = 0 ∨ formOk g 5 n ks = false) := by rw [hF]; simp; omega
  rw [hv, if_neg hne]
  rw [wrap_i64 (x := N - 1) (by omega) (by omega)]
  refine vc_on (α := Nat × Int) [2, 8, 9, 11, 12, 13, 68, 69, 70, 71, 72, 73, 74, 75, 76, 77, 78, 79, 80, 81, 82, 83, 84] (fun x => [(68, .im none (.sc (.int .i64 x.1))), (2, .im none (.sc (.int .i64 x.2)))]) (fun x => x.1 ≤ ks.length ∧ 0 ≤ x.2 ∧ x.2 ≤ N ∧ shEs g (ks.drop x.1) x.2 (d - 1) = shEs g ks (N - 1) (d - 1)) (fun x => ks.length - x.1) (0, N - 1) (by simp only [subEnv, go_sem, ↓reduceIte, Nat.reduceEqDiff]; simp) ⟨Nat.zero_le _, by simp only; omega, by simp only; omega, rfl⟩ ?_
  rintro ⟨i, m⟩ j
  simp only at j
  obtain ⟨j1, j2, j3, j4⟩ := j
  by_cases hi : i < ks.length
  ·have e1 := at_map (f := eE) hi
   rw [shEs_step hi] at j4
   cases n1 : (eE ks[i]).noPtr
   all_goals
    simp +contextual -implicitDefEqProofs only [e1, hi, encE.sub, eE_size, eE_isAg, Int.ofNat_lt, List.length_map, Int.natCast_nonneg, Nat.zero_lt_one, n1, bne, Bool.not_false, Bool.and_true, go_sem, ↓reduceIte, Nat.reduceEqDiff, Nat.reduceAdd, Nat.reduceLeDiff, Nat.reduceBEq]
    rw [wrap_i64 (x := d - 1) (by omega) (by omega)]
    refine callQ_self ?_ (ih ks[i] (List.getElem_mem _) m (d - 1) j2 (by omega) (by omega) (by omega)) ?_
    ·exact rfl
    cases hx : shE g ks[i] m (d - 1) with
    | none =>
     rw [hx] at j4
     simp +contextual -implicitDefEqProofs only [Option.getD_none, Option.isSome_none, Bool.not_false, go_sem, eI, eB, ↓reduceIte, Nat.reduceEqDiff, Nat.reduceAdd, Nat.reduceLT]
     exact ⟨D.Le.sc_eq (by rw [← j4]; rfl), D.Le.sc_eq (by rw [← j4]; rfl)⟩
    | some q =>
     rw [hx] at j4
     have hq := shE_some j2 (by omega) hx
     simp +contextual -implicitDefEqProofs only [Option.getD_some, Option.isSome_some, Bool.not_true, go_sem, eI, eB, ↓reduceIte, Nat.reduceEqDiff, Nat.reduceAdd, Nat.reduceLT]
     rw [wrap_i64 (by omega) (by omega)]
     exact ⟨(i + 1, q), ⟨by simp only; omega, hq.1, by simp only; omega, j4⟩, by simp only; omega, Ent.delEnv 11 (by simp only [go_sem, ↓reduceIte, Nat.reduceEqDiff, killU, U.kill]) (by simp only [subEnv, go_sem, ↓reduceIte, Nat.reduceEqDiff, Nat.reduceBEq, killE, AV.refs]; simp)⟩
  ·simp +contextual -implicitDefEqProofs only [hi, Int.ofNat_lt, go_sem, ↓reduceIte, Nat.reduceEqDiff]
   rw [List.drop_eq_nil_of_le (by omega), shEs] at j4
   exact ⟨D.Le.sc_eq (by rw [← j4]; rfl), D.Le.sc_eq (by rw [← j4]; rfl)⟩
 have b5 : (k == 5) = false := by simpa using c5
 simp +contextual -implicitDefEqProofs only [hk, b3, b4, b5, hn, List.length_map, bne, Bool.not_true, go_sem, eI, ↓reduceIte, Nat.reduceEqDiff, Nat.reduceAdd, Nat.reduceLeDiff, Nat.reduceLT]
 have hF : formOk g k n ks = true := by simp [formOk, hk, hn, c3, c4, c5]
 have hne : ¬ (N = 0 ∨ d = 0 ∨ formOk g k n ks = false) := by rw [hF]; simp; omega
 rw [hv, if_neg hne]
 rw [wrap_i64 (x := N - 1) (by omega) (by omega)]
 refine vc_on (α := Nat × Int) [2, 8, 9, 11, 12, 13, 68, 69, 70, 71, 72, 73, 74, 75, 76, 77, 78, 79, 80, 81, 82, 83, 84] (fun x => [(68, .im none (.sc (.int .i64 x.1))), (2, .im none (.sc (.int .i64 x.2)))]) (fun x => x.1 ≤ ks.length ∧ 0 ≤ x.2 ∧ x.2 ≤ N ∧ shEs g (ks.drop x.1) x.2 (d - 1) = shEs g ks (N - 1) (d - 1)) (fun x => ks.length - x.1) (0, N - 1) (by simp only [subEnv, go_sem, ↓reduceIte, Nat.reduceEqDiff]; simp) ⟨Nat.zero_le _, by simp only; omega, by simp only; omega, rfl⟩ ?_
 rintro ⟨i, m⟩ j
 simp only at j
 obtain ⟨j1, j2, j3, j4⟩ := j
 by_cases hi : i < ks.length
 ·have e1 := at_map (f := eE) hi
  rw [shEs_step hi] at j4
  cases n1 : (eE ks[i]).noPtr
  all_goals
   simp +contextual -implicitDefEqProofs only [e1, hi, encE.sub, eE_size, eE_isAg, Int.ofNat_lt, List.length_map, Int.natCast_nonneg, Nat.zero_lt_one, n1, bne, Bool.not_false, Bool.and_true, go_sem, ↓reduceIte, Nat.reduceEqDiff, Nat.reduceAdd, Nat.reduceLeDiff, Nat.reduceBEq]
   rw [wrap_i64 (x := d - 1) (by omega) (by omega)]
   refine callQ_self ?_ (ih ks[i] (List.getElem_mem _) m (d - 1) j2 (by omega) (by omega) (by omega)) ?_
   ·exact rfl
   cases hx : shE g ks[i] m (d - 1) with
   | none =>
    rw [hx] at j4
    simp +contextual -implicitDefEqProofs only [Option.getD_none, Option.isSome_none, Bool.not_false, go_sem, eI, eB, ↓reduceIte, Nat.reduceEqDiff, Nat.reduceAdd, Nat.reduceLT]
    exact ⟨D.Le.sc_eq (by rw [← j4]; rfl), D.Le.sc_eq (by rw [← j4]; rfl)⟩
   | some q =>
    rw [hx] at j4
    have hq := shE_some j2 (by omega) hx
    simp +contextual -implicitDefEqProofs only [Option.getD_some, Option.isSome_some, Bool.not_true, go_sem, eI, eB, ↓reduceIte, Nat.reduceEqDiff, Nat.reduceAdd, Nat.reduceLT]
    rw [wrap_i64 (by omega) (by omega)]
    exact ⟨(i + 1, q), ⟨by simp only; omega, hq.1, by simp only; omega, j4⟩, by simp only; omega, Ent.delEnv 11 (by simp only [go_sem, ↓reduceIte, Nat.reduceEqDiff, killU, U.kill]) (by simp only [subEnv, go_sem, ↓reduceIte, Nat.reduceEqDiff, Nat.reduceBEq, killE, AV.refs]; simp)⟩
 ·simp +contextual -implicitDefEqProofs only [hi, Int.ofNat_lt, go_sem, ↓reduceIte, Nat.reduceEqDiff]
  rw [List.drop_eq_nil_of_le (by omega), shEs] at j4
  exact ⟨D.Le.sc_eq (by rw [← j4]; rfl), D.Le.sc_eq (by rw [← j4]; rfl)⟩
end Go.Ax
