/- Contracts of functions of the seat, proved over the engine. No condition. -/
import Derived.Test.YtohakobkclkniaaDoorX11
set_option linter.unusedSimpArgs false
set_option linter.unusedVariables false
set_option linter.unnecessarySimpa false
namespace Go.Ax
set_option linter.unusedSimpArgs false
set_option maxRecDepth 20000
set_option maxHeartbeats 4000000

def k_imValidFlow (f1 f2 f3 : Nat) : RC := (.seq (.reg false [⟨none, .box 2 2 (.t 0)⟩, ⟨none, .box 3 2 (.t 1)⟩, ⟨none, .mv 4 (.c (.sc (.bool false)))⟩]) ((.seq (.reg false [⟨none, .fa 8 1 (.t 3)⟩, ⟨none, .ld 9 false 1 (.t 8)⟩, ⟨none, .len 10 (.t 9)⟩, ⟨none, .mv 5 (.t 10)⟩]) ((.seq ((.seq (.reg false [⟨none, .ld 11 true 2 (.t 2)⟩, ⟨none, .call (some 12) f1 [(.t 11)]⟩, ⟨none, .un 13 .not (.t 12)⟩, ⟨none, .mv 14 (.t 13)⟩, ⟨some (14, false), .mv 15 (.t 5)⟩, ⟨some (14, false), .call (some 16) f2 [(.t 15), (.c (.sc (.int .i64 1))), (.c (.sc (.int .i64 60)))]⟩, ⟨some (14, false), .un 17 .not (.t 16)⟩, ⟨none, .pick 18 (.t 14) (.c (.sc (.bool true))) (.t 17)⟩, ⟨none, .mv 19 (.t 18)⟩, ⟨some (19, false), .fa 20 0 (.t 3)⟩, ⟨some (19, false), .ld 21 false 1 (.t 20)⟩, ⟨some (19, false), .mv 22 (.t 5)⟩, ⟨some (19, false), .bin 23 .sub (.t 22) (.c (.sc (.int .i64 1)))⟩, ⟨some (19, false), .call (some 24) f2 [(.t 21), (.c (.sc (.int .i64 0))), (.t 23)]⟩, ⟨some (19, false), .un 25 .not (.t 24)⟩, ⟨none, .pick 26 (.t 19) (.c (.sc (.bool true))) (.t 25)⟩]) (.cond (.t 26) ((.seq (.reg false [⟨none, .mv 4 (.c (.sc (.bool false)))⟩]) (.ret))) (.skip)))) ((.seq ((.seq (.reg false [⟨none, .fa 27 1 (.t 3)⟩, ⟨none, .ld 28 false 1 (.t 27)⟩, ⟨none, .len 29 (.t 28)⟩, ⟨none, .mv 30 (.c (.sc (.int .i64 0)))⟩]) (.blk 0 (.loop ((.seq (.reg false [⟨none, .bin 31 .lss (.t 30) (.t 29)⟩]) ((.seq (.cond (.t 31) (.skip) (.exit 0)) ((.seq (.blk 1 ((.seq (.reg false [⟨none, .ia 32 7 (.t 28) (.t 30)⟩, ⟨none, .ld 33 true 7 (.t 32)⟩, ⟨none, .zer 7 7 (.ag [(.sc (.int .i64 0)), (.sc (.int .i64 0)), (.sc (.int .i64 0)), (.sc (.int .i64 0)), (.ls (some true) 3 []), (.sc (.int .i64 0)), (.sc (.int .i64 0))])⟩, ⟨none, .st 7 (.t 7) (.t 33)⟩]) ((.seq (.reg false [⟨none, .ld 34 true 2 (.t 2)⟩, ⟨none, .ld 35 true 7 (.t 7)⟩, ⟨none, .mv 36 (.t 5)⟩, ⟨none, .call (some 37) f3 [(.t 34), (.t 35), (.t 36)]⟩, ⟨none, .un 38 .not (.t 37)⟩]) (.cond (.t 38) ((.seq (.reg false [⟨none, .mv 4 (.c (.sc (.bool false)))⟩]) (.ret))) (.skip))))))) (.reg false [⟨none, .bin 39 .add (.t 30) (.c (.sc (.int .i64 1)))⟩, ⟨none, .mv 30 (.t 39)⟩]))))))))))) ((.seq (.reg false [⟨none, .mv 4 (.c (.sc (.bool true)))⟩]) (.ret))))))))))
def K_imValidFlow (P : Program) (fno : Nat) : Prop := ∀ (g : Int × Int) (f : Fl), AF P fno [eG g, eFl f] (.own (eB (okFl g f)))
theorem a_imValidFlow {P : Program} (hm : P.follows .mixedOrders = true) {g f1 f2 f3 : Nat} (hr : resF P g = some (40, k_imValidFlow f1 f2 f3, [.t 4])) (hc1 : K_validSig P f1) (hc2 : K_within P f2) (hc3 : K_isSpot P f3) : K_imValidFlow P g := by
 intro g f
 refine af_of_res hr hm rfl fun hb => ?_
 have hb1 := hb.2.1
 simp only [eFl, eS, D.bd, D.bdL, List.length_map] at hb1
 have hl := hb1.2.1.1
 unfold maxEl at hl
 simp +contextual -implicitDefEqProofs only [k_imValidFlow, eG, eFl, eS, List.length_map, go_sem, eI, eB, ↓reduceIte, Nat.reduceEqDiff, Nat.reduceAdd, Nat.reduceLeDiff, Nat.reduceMul, Nat.reduceBEq, Nat.reduceBneDiff, Nat.reduceLT, Nat.reduceSub]
 refine callQ_self ?_ (hc1 g) ?_
 ·exact rfl
 cases hg : okG g
 ·simp +contextual -implicitDefEqProofs only [okFl, hg, bne, Bool.not_true, Bool.not_false, Bool.true_and, Bool.false_and, Bool.and_true, Bool.and_false, Bool.true_or, Bool.false_or, Bool.or_true, Bool.or_false, go_sem, eI, eB, ↓reduceIte, Nat.reduceEqDiff, Nat.reduceAdd, Nat.reduceLeDiff, Nat.reduceMul, Nat.reduceBEq, Nat.reduceBneDiff, Nat.reduceLT, Nat.reduceSub]
 simp +contextual -implicitDefEqProofs only [hg, eS, List.length_map, bne, Bool.not_true, Bool.not_false, Bool.true_and, Bool.false_and, Bool.and_true, Bool.and_false, Bool.true_or, Bool.false_or, Bool.or_true, Bool.or_false, go_sem, eI, eB, ↓reduceIte, Nat.reduceEqDiff, Nat.reduceAdd, Nat.reduceLeDiff, Nat.reduceMul, Nat.reduceBEq, Nat.reduceBneDiff, Nat.reduceLT, Nat.reduceSub]
 refine callQ_self ?_ (hc2 f.2.2.length 1 60) ?_
 ·exact rfl
 cases hn : isIn f.2.2.length 1 60
 ·simp +contextual -implicitDefEqProofs only [okFl, hg, hn, bne, Bool.not_true, Bool.not_false, Bool.true_and, Bool.false_and, Bool.and_true, Bool.and_false, Bool.true_or, Bool.false_or, Bool.or_true, Bool.or_false, go_sem, eI, eB, ↓reduceIte, Nat.reduceEqDiff, Nat.reduceAdd, Nat.reduceLeDiff, Nat.reduceMul, Nat.reduceBEq, Nat.reduceBneDiff, Nat.reduceLT, Nat.reduceSub]
 have hn' : 1 ≤ (f.2.2.length : Int) ∧ (f.2.2.length : Int) ≤ 60 := by simpa [isIn] using hn
 simp +contextual -implicitDefEqProofs only [hn, eS, List.length_map, bne, Bool.not_true, Bool.not_false, Bool.true_and, Bool.false_and, Bool.and_true, Bool.and_false, Bool.true_or, Bool.false_or, Bool.or_true, Bool.or_false, go_sem, eI, eB, ↓reduceIte, Nat.reduceEqDiff, Nat.reduceAdd, Nat.reduceLeDiff, Nat.reduceMul, Nat.reduceBEq, Nat.reduceBneDiff, Nat.reduceLT, Nat.reduceSub]
 rw [wrap_i64 (by omega) (by omega)]
 refine callQ_self ?_ (hc2 f.1 0 (f.2.2.length - 1)) ?_
 ·exact rfl
 cases hs : isIn f.1 0 (f.2.2.length - 1)
 ·simp +contextual -implicitDefEqProofs only [okFl, hg, hn, hs, bne, Bool.not_true, Bool.not_false, Bool.true_and, Bool.false_and, Bool.and_true, Bool.and_false, Bool.true_or, Bool.false_or, Bool.or_true, Bool.or_false, go_sem, eI, eB, ↓reduceIte, Nat.reduceEqDiff, Nat.reduceAdd, Nat.reduceLeDiff, Nat.reduceMul, Nat.reduceBEq, Nat.reduceBneDiff, Nat.reduceLT, Nat.reduceSub]
 simp +contextual -implicitDefEqProofs only [hs, eS, List.length_map, bne, Bool.not_true, Bool.not_false, Bool.true_and, Bool.false_and, Bool.and_true, Bool.and_false, Bool.true_or, Bool.false_or, Bool.or_true, Bool.or_false, go_sem, eI, eB, ↓reduceIte, Nat.reduceEqDiff, Nat.reduceAdd, Nat.reduceLeDiff, Nat.reduceMul, Nat.reduceBEq, Nat.reduceBneDiff, Nat.reduceLT, Nat.reduceSub]
 refine vc_on (α := Nat) [4, 7, 30, 31, 32, 33, 34, 35, 36, 37, 38, 39] (fun i => [(30, .im none (.sc (.int .i64 i)))]) (fun i => i ≤ f.2.2.length ∧ (f.2.2.take i).all (spOk g f.2.2.length) = true) (fun i => f.2.2.length - i) 0 (by simp only [subEnv, go_sem, ↓reduceIte, Nat.reduceEqDiff, List.length_map]; simp) ⟨Nat.zero_le _, rfl⟩ ?_
 rintro i ⟨j1, j2⟩
 by_cases hi : i < f.2.2.length
 ·have e1 := at_map (f := eSp) hi
  cases n1 : (eSp f.2.2[i]).noPtr
  all_goals
   simp +contextual -implicitDefEqProofs only [e1, hi, eS, encSp.sub, encSp.size, encSp.isAg, Int.ofNat_lt, List.length_map, Int.natCast_nonneg, Nat.zero_lt_one, n1, bne, Bool.not_true, Bool.not_false, Bool.true_and, Bool.false_and, Bool.and_true, Bool.and_false, Bool.true_or, Bool.false_or, Bool.or_true, Bool.or_false, go_sem, eI, eB, ↓reduceIte, Nat.reduceEqDiff, Nat.reduceAdd, Nat.reduceLeDiff, Nat.reduceMul, Nat.reduceBEq, Nat.reduceBneDiff, Nat.reduceLT, Nat.reduceSub]
   refine callQ_self ?_ (hc3 g f.2.2[i] f.2.2.length hg hn'.1 hn'.2) ?_
   ·exact rfl
   cases hx : spOk g f.2.2.length f.2.2[i]
   ·simp +contextual -implicitDefEqProofs only [bne, Bool.not_true, Bool.not_false, Bool.true_and, Bool.false_and, Bool.and_true, Bool.and_false, Bool.true_or, Bool.false_or, Bool.or_true, Bool.or_false, go_sem, eI, eB, ↓reduceIte, Nat.reduceEqDiff, Nat.reduceAdd, Nat.reduceLeDiff, Nat.reduceMul, Nat.reduceBEq, Nat.reduceBneDiff, Nat.reduceLT, Nat.reduceSub]
    exact D.Le.sc_eq (by simp only [okFl, hg, hn, hs, Bool.true_and]; rw [all_fail hi hx])
   ·simp +contextual -implicitDefEqProofs only [bne, Bool.not_true, Bool.not_false, Bool.true_and, Bool.false_and, Bool.and_true, Bool.and_false, Bool.true_or, Bool.false_or, Bool.or_true, Bool.or_false, go_sem, eI, eB, ↓reduceIte, Nat.reduceEqDiff, Nat.reduceAdd, Nat.reduceLeDiff, Nat.reduceMul, Nat.reduceBEq, Nat.reduceBneDiff, Nat.reduceLT, Nat.reduceSub]
    rw [wrap_i64 (by omega) (by omega)]
    exact ⟨i + 1, ⟨by omega, all_take_succ hi j2 hx⟩, by omega, Ent.delEnv 7 (by simp only [go_sem, ↓reduceIte, Nat.reduceEqDiff, Nat.reduceBEq, killU, AV.refs, U.kill, killL]) (by simp only [subEnv, go_sem, ↓reduceIte, Nat.reduceEqDiff, Nat.reduceBEq, killE, AV.refs, List.length_map]; simp)⟩
 ·simp +contextual -implicitDefEqProofs only [hi, eS, Int.ofNat_lt, List.length_map, Int.natCast_nonneg, bne, Bool.not_true, Bool.not_false, Bool.true_and, Bool.false_and, Bool.and_true, Bool.and_false, Bool.true_or, Bool.false_or, Bool.or_true, Bool.or_false, go_sem, eI, eB, ↓reduceIte, Nat.reduceEqDiff, Nat.reduceAdd, Nat.reduceLeDiff, Nat.reduceMul, Nat.reduceBEq, Nat.reduceBneDiff, Nat.reduceLT, Nat.reduceSub]
  exact D.Le.sc_eq (by simp only [okFl, hg, hn, hs, Bool.true_and]; rw [all_of_take hi j2])

def k_l06Flow (f1 f2 f3 : Nat) : RC := (.seq (.reg false [⟨none, .box 2 2 (.t 0)⟩, ⟨none, .mv 4 (.c (.sc (.bool false)))⟩]) ((.seq (.reg false [⟨none, .mv 7 (.t 1)⟩, ⟨none, .nck 8 (.t 7)⟩, ⟨none, .fa 9 1 (.t 8)⟩, ⟨none, .ld 10 false 1 (.t 9)⟩, ⟨none, .len 11 (.t 10)⟩, ⟨none, .mv 5 (.t 11)⟩]) ((.seq ((.seq (.reg false [⟨none, .ld 12 true 2 (.t 2)⟩, ⟨none, .call (some 13) f1 [(.t 12)]⟩, ⟨none, .un 14 .not (.t 13)⟩, ⟨none, .mv 15 (.t 14)⟩, ⟨some (15, false), .mv 16 (.t 5)⟩, ⟨some (15, false), .call (some 17) f2 [(.t 16), (.c (.sc (.int .i64 1))), (.c (.sc (.int .i64 60)))]⟩, ⟨some (15, false), .un 18 .not (.t 17)⟩, ⟨none, .pick 19 (.t 15) (.c (.sc (.bool true))) (.t 18)⟩, ⟨none, .mv 20 (.t 19)⟩, ⟨some (20, false), .mv 21 (.t 1)⟩, ⟨some (20, false), .nck 22 (.t 21)⟩, ⟨some (20, false), .fa 23 0 (.t 22)⟩, ⟨some (20, false), .ld 24 false 1 (.t 23)⟩, ⟨some (20, false), .mv 25 (.t 5)⟩, ⟨some (20, false), .bin 26 .sub (.t 25) (.c (.sc (.int .i64 1)))⟩, ⟨some (20, false), .call (some 27) f2 [(.t 24), (.c (.sc (.int .i64 0))), (.t 26)]⟩, ⟨some (20, false), .un 28 .not (.t 27)⟩, ⟨none, .pick 29 (.t 20) (.c (.sc (.bool true))) (.t 28)⟩]) (.cond (.t 29) ((.seq (.reg false [⟨none, .mv 4 (.c (.sc (.bool false)))⟩]) (.ret))) (.skip)))) ((.seq ((.seq (.reg false [⟨none, .mv 6 (.c (.sc (.int .i64 0)))⟩]) (.blk 0 (.loop ((.seq ((.seq (.reg false [⟨none, .mv 30 (.t 6)⟩, ⟨none, .mv 31 (.t 1)⟩, ⟨none, .nck 32 (.t 31)⟩, ⟨none, .fa 33 1 (.t 32)⟩, ⟨none, .ld 34 false 1 (.t 33)⟩, ⟨none, .len 35 (.t 34)⟩, ⟨none, .bin 36 .lss (.t 30) (.t 35)⟩]) (.cond (.t 36) (.skip) (.exit 0)))) ((.seq (.blk 1 ((.seq (.reg true [⟨none, .ld 39 true 2 (.t 2)⟩, ⟨none, .mv 40 (.t 1)⟩, ⟨none, .nck 41 (.t 40)⟩, ⟨none, .fa 42 1 (.t 41)⟩, ⟨none, .ld 43 false 1 (.t 42)⟩, ⟨none, .mv 44 (.t 6)⟩, ⟨none, .ia 45 7 (.t 43) (.t 44)⟩, ⟨none, .mv 46 (.t 5)⟩, ⟨none, .call (some 47) f3 [(.t 39), (.t 45), (.t 46)]⟩, ⟨none, .un 48 .not (.t 47)⟩]) (.cond (.t 48) ((.seq (.reg false [⟨none, .mv 4 (.c (.sc (.bool false)))⟩]) (.ret))) (.skip))))) (.reg false [⟨none, .mv 37 (.t 6)⟩, ⟨none, .bin 38 .add (.t 37) (.c (.sc (.int .i64 1)))⟩, ⟨none, .mv 6 (.t 38)⟩]))))))))) ((.seq (.reg false [⟨none, .mv 4 (.c (.sc (.bool true)))⟩]) (.ret))))))))))
def K_l06Flow (P : Program) (fno : Nat) : Prop := ∀ (g : Int × Int) (f : Fl), AF P fno [eG g, .pt (eFl f) 0] (.own (eB (okFl g f)))
theorem a_l06Flow {P : Program} (hm : P.follows .mixedOrders = true) {g f1 f2 f3 : Nat} (hr : resF P g = some (49, k_l06Flow f1 f2 f3, [.t 4])) (hc1 : K_l01Sig P f1) (hc2 : K_l00In P f2) (hc3 : K_l06Spot P f3) : K_l06Flow P g := by
 intro g f
 refine af_of_res hr hm rfl fun hb => ?_
 have hb1 := hb.2.1
 simp only [eFl, eS, D.bd, D.bdL, List.length_map] at hb1
 have hl := hb1.2.1.1
 unfold maxEl at hl
 simp +contextual -implicitDefEqProofs only [k_l06Flow, eG, eFl, eS, List.length_map, go_sem, eI, eB, ↓reduceIte, Nat.reduceEqDiff, Nat.reduceAdd, Nat.reduceLeDiff, Nat.reduceMul, Nat.reduceBEq, Nat.reduceBneDiff, Nat.reduceLT, Nat.reduceSub]
 refine callQ_self ?_ (hc1 g) ?_
 ·exact rfl
 cases hg : okG g
 ·simp +contextual -implicitDefEqProofs only [okFl, hg, bne, Bool.not_true, Bool.not_false, Bool.true_and, Bool.false_and, Bool.and_true, Bool.and_false, Bool.true_or, Bool.false_or, Bool.or_true, Bool.or_false, go_sem, eI, eB, ↓reduceIte, Nat.reduceEqDiff, Nat.reduceAdd, Nat.reduceLeDiff, Nat.reduceMul, Nat.reduceBEq, Nat.reduceBneDiff, Nat.reduceLT, Nat.reduceSub]
 simp +contextual -implicitDefEqProofs only [hg, eS, List.length_map, bne, Bool.not_true, Bool.not_false, Bool.true_and, Bool.false_and, Bool.and_true, Bool.and_false, Bool.true_or, Bool.false_or, Bool.or_true, Bool.or_false, go_sem, eI, eB, ↓reduceIte, Nat.reduceEqDiff, Nat.reduceAdd, Nat.reduceLeDiff, Nat.reduceMul, Nat.reduceBEq, Nat.reduceBneDiff, Nat.reduceLT, Nat.reduceSub]
 refine callQ_self ?_ (hc2 f.2.2.length 1 60) ?_
 ·exact rfl
 cases hn : isIn f.2.2.length 1 60
 ·simp +contextual -implicitDefEqProofs only [okFl, hg, hn, bne, Bool.not_true, Bool.not_false, Bool.true_and, Bool.false_and, Bool.and_true, Bool.and_false, Bool.true_or, Bool.false_or, Bool.or_true, Bool.or_false, go_sem, eI, eB, ↓reduceIte, Nat.reduceEqDiff, Nat.reduceAdd, Nat.reduceLeDiff, Nat.reduceMul, Nat.reduceBEq, Nat.reduceBneDiff, Nat.reduceLT, Nat.reduceSub]
 have hn' : 1 ≤ (f.2.2.length : Int) ∧ (f.2.2.length : Int) ≤ 60 := by simpa [isIn] using hn
 simp +contextual -implicitDefEqProofs only [hn, eS, List.length_map, bne, Bool.not_true, Bool.not_false, Bool.true_and, Bool.false_and, Bool.and_true, Bool.and_false, Bool.true_or, Bool.false_or, Bool.or_true, Bool.or_false, go_sem, eI, eB, ↓reduceIte, Nat.reduceEqDiff, Nat.reduceAdd, Nat.reduceLeDiff, Nat.reduceMul, Nat.reduceBEq, Nat.reduceBneDiff, Nat.reduceLT, Nat.reduceSub]
 rw [wrap_i64 (by omega) (by omega)]
 refine callQ_self ?_ (hc2 f.1 0 (f.2.2.length - 1)) ?_
 ·exact rfl
 cases hs : isIn f.1 0 (f.2.2.length - 1)
 ·simp +contextual -implicitDefEqProofs only [okFl, hg, hn, hs, bne, Bool.not_true, Bool.not_false, Bool.true_and, Bool.false_and, Bool.and_true, Bool.and_false, Bool.true_or, Bool.false_or, Bool.or_true, Bool.or_false, go_sem, eI, eB, ↓reduceIte, Nat.reduceEqDiff, Nat.reduceAdd, Nat.reduceLeDiff, Nat.reduceMul, Nat.reduceBEq, Nat.reduceBneDiff, Nat.reduceLT, Nat.reduceSub]
 simp +contextual -implicitDefEqProofs only [hs, eS, List.length_map, bne, Bool.not_true, Bool.not_false, Bool.true_and, Bool.false_and, Bool.and_true, Bool.and_false, Bool.true_or, Bool.false_or, Bool.or_true, Bool.or_false, go_sem, eI, eB, ↓reduceIte, Nat.reduceEqDiff, Nat.reduceAdd, Nat.reduceLeDiff, Nat.reduceMul, Nat.reduceBEq, Nat.reduceBneDiff, Nat.reduceLT, Nat.reduceSub]
 refine vc_on (α := Nat) [4, 6, 30, 31, 32, 33, 34, 35, 36, 37, 38, 39, 40, 41, 42, 43, 44, 45, 46, 47, 48] (fun i => [(6, .im none (.sc (.int .i64 i)))]) (fun i => i ≤ f.2.2.length ∧ (f.2.2.take i).all (spOk g f.2.2.length) = true) (fun i => f.2.2.length - i) 0 (by simp only [subEnv, go_sem, ↓reduceIte, Nat.reduceEqDiff, List.length_map]; simp) ⟨Nat.zero_le _, rfl⟩ ?_
 rintro i ⟨j1, j2⟩
 by_cases hi : i < f.2.2.length
 ·have e1 := at_map (f := eSp) hi
  simp +contextual -implicitDefEqProofs only [e1, hi, eS, encSp.sub, encSp.size, encSp.isAg, Int.ofNat_lt, List.length_map, Int.natCast_nonneg, Nat.zero_lt_one, bne, Bool.not_true, Bool.not_false, Bool.true_and, Bool.false_and, Bool.and_true, Bool.and_false, Bool.true_or, Bool.false_or, Bool.or_true, Bool.or_false, go_sem, eI, eB, ↓reduceIte, Nat.reduceEqDiff, Nat.reduceAdd, Nat.reduceLeDiff, Nat.reduceMul, Nat.reduceBEq, Nat.reduceBneDiff, Nat.reduceLT, Nat.reduceSub]
  refine callQ_self ?_ (hc3 g f.2.2[i] f.2.2.length hg hn'.1 hn'.2) ?_
  ·exact rfl
  cases hx : spOk g f.2.2.length f.2.2[i]
  ·simp +contextual -implicitDefEqProofs only [bne, Bool.not_true, Bool.not_false, Bool.true_and, Bool.false_and, Bool.and_true, Bool.and_false, Bool.true_or, Bool.false_or, Bool.or_true, Bool.or_false, go_sem, eI, eB, ↓reduceIte, Nat.reduceEqDiff, Nat.reduceAdd, Nat.reduceLeDiff, Nat.reduceMul, Nat.reduceBEq, Nat.reduceBneDiff, Nat.reduceLT, Nat.reduceSub]
   exact D.Le.sc_eq (by simp only [okFl, hg, hn, hs, Bool.true_and]; rw [all_fail hi hx])
  ·simp +contextual -implicitDefEqProofs only [bne, Bool.not_true, Bool.not_false, Bool.true_and, Bool.false_and, Bool.and_true, Bool.and_false, Bool.true_or, Bool.false_or, Bool.or_true, Bool.or_false, go_sem, eI, eB, ↓reduceIte, Nat.reduceEqDiff, Nat.reduceAdd, Nat.reduceLeDiff, Nat.reduceMul, Nat.reduceBEq, Nat.reduceBneDiff, Nat.reduceLT, Nat.reduceSub]
   rw [wrap_i64 (by omega) (by omega)]
   exact ⟨i + 1, ⟨by omega, all_take_succ hi j2 hx⟩, by omega, Ent.env (by simp only [subEnv, go_sem, ↓reduceIte, Nat.reduceEqDiff, List.length_map]; simp)⟩
 ·simp +contextual -implicitDefEqProofs only [hi, eS, Int.ofNat_lt, List.length_map, Int.natCast_nonneg, bne, Bool.not_true, Bool.not_false, Bool.true_and, Bool.false_and, Bool.and_true, Bool.and_false, Bool.true_or, Bool.false_or, Bool.or_true, Bool.or_false, go_sem, eI, eB, ↓reduceIte, Nat.reduceEqDiff, Nat.reduceAdd, Nat.reduceLeDiff, Nat.reduceMul, Nat.reduceBEq, Nat.reduceBneDiff, Nat.reduceLT, Nat.reduceSub]
  exact D.Le.sc_eq (by simp only [okFl, hg, hn, hs, Bool.true_and]; rw [all_of_take hi j2])

end Go.Ax
