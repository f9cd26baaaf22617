/- Contracts of functions of the seat, proved over the engine. No condition. -/
import Derived.Test.YtjnghfepojipiaaX1
set_option linter.unusedSimpArgs false
set_option linter.unusedVariables false
set_option linter.unnecessarySimpa false
namespace Go.Ax
set_option linter.unusedSimpArgs false
abbrev Mo := (Int × Int) × Int × SL (SL Bool) × SL (SL (SL Bool))
def eM (m : Mo) : D := .ag [eI m.1.1, eI m.1.2, eI m.2.1, eS 1 (eS 1 eB) m.2.2.1, eS 1 (eS 1 (eS 1 eB)) m.2.2.2]
def lenIs {α : Type} (c : Int) (x : SL α) : Bool := (x.2.length : Int) == c
def tabOk {α : Type} (r c : Int) (t : SL (SL α)) : Bool := lenIs r t && t.2.all (lenIs c)
def testsOk (g : Int × Int) (p : Int) (t : SL (SL Bool)) : Bool := okG g && (isIn p 1 8 && tabOk g.1 p t)
def actsOk {α : Type} (g : Int × Int) (p : Int) (t : SL (SL (SL α))) : Bool := lenIs g.2 t && t.2.all (tabOk p p)

def k_isTableB : RC := (.seq (.reg false [⟨none, .mv 6 (.c (.sc (.bool false)))⟩]) ((.seq ((.seq (.reg false [⟨none, .mv 9 (.t 0)⟩, ⟨none, .len 10 (.t 9)⟩, ⟨none, .mv 11 (.t 1)⟩, ⟨none, .bin 12 .neq (.t 10) (.t 11)⟩]) (.cond (.t 12) ((.seq (.reg false [⟨none, .mv 6 (.c (.sc (.bool false)))⟩]) (.ret))) (.skip)))) ((.seq ((.seq (.reg false [⟨none, .mv 13 (.t 0)⟩, ⟨none, .len 14 (.t 13)⟩, ⟨none, .mv 15 (.c (.sc (.int .i64 0)))⟩]) (.blk 0 (.loop ((.seq (.reg false [⟨none, .bin 16 .lss (.t 15) (.t 14)⟩]) ((.seq (.cond (.t 16) (.skip) (.exit 0)) ((.seq (.blk 1 ((.seq (.reg false [⟨none, .ia 17 1 (.t 13) (.t 15)⟩, ⟨none, .ld 18 false 1 (.t 17)⟩, ⟨none, .mv 8 (.t 18)⟩]) ((.seq (.reg false [⟨none, .mv 19 (.t 8)⟩, ⟨none, .len 20 (.t 19)⟩, ⟨none, .mv 21 (.t 2)⟩, ⟨none, .bin 22 .neq (.t 20) (.t 21)⟩]) (.cond (.t 22) ((.seq (.reg false [⟨none, .mv 6 (.c (.sc (.bool false)))⟩]) (.ret))) (.skip))))))) (.reg false [⟨none, .bin 23 .add (.t 15) (.c (.sc (.int .i64 1)))⟩, ⟨none, .mv 15 (.t 23)⟩]))))))))))) ((.seq (.reg false [⟨none, .mv 6 (.c (.sc (.bool true)))⟩]) (.ret))))))))
def K_isTableB (P : Program) (f : Nat) : Prop := ∀ (t : SL (SL Bool)) (r c : Int), AF P f [eS 1 (eS 1 eB) t, eI r, eI c] (.own (eB (tabOk r c t)))
theorem a_isTableB {P : Program} (hm : P.follows .mixedOrders = true) {g : Nat} (hr : resF P g = some (24, k_isTableB, [.t 6])) : K_isTableB P g := by
 intro t r c
 refine af_of_res hr hm rfl fun hb => ?_
 have hl := bd_ls hb.1
 simp only [List.length_map] at hl
 cases h0 : lenIs r t
 ·have h0' := h0
  simp only [lenIs] at h0'
  simp +contextual -implicitDefEqProofs only [k_isTableB, eS, List.length_map, h0', tabOk, h0, bne, Bool.not_false, Bool.false_and, go_sem, eI, eB, ↓reduceIte, Nat.reduceEqDiff, Nat.reduceAdd]
 have h0' := h0
 simp only [lenIs] at h0'
 simp +contextual -implicitDefEqProofs only [k_isTableB, eS, List.length_map, h0', bne, Bool.not_true, go_sem, eI, eB, ↓reduceIte, Nat.reduceEqDiff, Nat.reduceAdd]
 refine vc_on (α := Nat) [6, 8, 15, 16, 17, 18, 19, 20, 21, 22, 23] (fun i => [(15, .im none (.sc (.int .i64 i)))]) (fun i => i ≤ t.2.length ∧ (t.2.take i).all (lenIs c) = true) (fun i => t.2.length - i) 0 (by simp only [subEnv, go_sem, ↓reduceIte]; simp) ⟨Nat.zero_le _, rfl⟩ ?_
 rintro i ⟨j1, j2⟩
 by_cases hi : i < t.2.length
 ·have e1 := at_map (f := eS 1 eB) hi
  simp +contextual -implicitDefEqProofs only [e1, hi, Int.ofNat_lt, List.length_map, Int.natCast_nonneg, go_sem, ↓reduceIte, Nat.reduceEqDiff, Nat.reduceLT]
  cases hx : lenIs c t.2[i]
  ·have hx' := hx
   simp only [lenIs] at hx'
   simp +contextual -implicitDefEqProofs only [eS, List.length_map, bne, hx', Bool.not_false, go_sem, ↓reduceIte, Nat.reduceEqDiff, Nat.reduceLeDiff]
   exact D.Le.sc_eq (by simp only [tabOk, h0]; rw [all_fail hi hx]; rfl)
  ·have hx' := hx
   simp only [lenIs] at hx'
   simp +contextual -implicitDefEqProofs only [eS, List.length_map, bne, hx', Bool.not_true, go_sem, ↓reduceIte, Nat.reduceEqDiff, Nat.reduceLeDiff]
   rw [wrap_i64 (by omega) (by omega)]
   exact ⟨i + 1, ⟨by omega, all_take_succ hi j2 hx⟩, by omega, Ent.env (by simp only [subEnv, go_sem, ↓reduceIte, Nat.reduceEqDiff]; simp)⟩
 ·simp +contextual -implicitDefEqProofs only [hi, Int.ofNat_lt, go_sem, ↓reduceIte, Nat.reduceEqDiff]
  exact D.Le.sc_eq (by simp only [tabOk, h0]; rw [all_of_take hi j2]; rfl)

def k_l05Tests (f1 f2 : Nat) : RC := (.seq (.reg false [⟨none, .box 3 2 (.t 0)⟩, ⟨none, .mv 6 (.c (.sc (.bool false)))⟩]) ((.seq ((.seq (.reg false [⟨none, .ld 8 true 2 (.t 3)⟩, ⟨none, .call (some 9) f1 [(.t 8)]⟩, ⟨none, .un 10 .not (.t 9)⟩, ⟨none, .mv 11 (.t 10)⟩, ⟨some (11, false), .mv 12 (.t 1)⟩, ⟨some (11, false), .call (some 13) f2 [(.t 12), (.c (.sc (.int .i64 1))), (.c (.sc (.int .i64 8)))]⟩, ⟨some (11, false), .un 14 .not (.t 13)⟩, ⟨none, .pick 15 (.t 11) (.c (.sc (.bool true))) (.t 14)⟩, ⟨none, .mv 16 (.t 15)⟩, ⟨some (16, false), .mv 17 (.t 2)⟩, ⟨some (16, false), .len 18 (.t 17)⟩, ⟨some (16, false), .fa 19 0 (.t 3)⟩, ⟨some (16, false), .ld 20 false 1 (.t 19)⟩, ⟨some (16, false), .bin 21 .neq (.t 18) (.t 20)⟩, ⟨none, .pick 22 (.t 16) (.c (.sc (.bool true))) (.t 21)⟩]) (.cond (.t 22) ((.seq (.reg false [⟨none, .mv 6 (.c (.sc (.bool false)))⟩]) (.ret))) (.skip)))) ((.seq ((.seq (.reg false [⟨none, .mv 7 (.c (.sc (.int .i64 0)))⟩]) (.blk 0 (.loop ((.seq ((.seq (.reg false [⟨none, .mv 23 (.t 7)⟩, ⟨none, .mv 24 (.t 2)⟩, ⟨none, .len 25 (.t 24)⟩, ⟨none, .bin 26 .lss (.t 23) (.t 25)⟩]) (.cond (.t 26) (.skip) (.exit 0)))) ((.seq (.blk 1 ((.seq (.reg false [⟨none, .mv 29 (.t 2)⟩, ⟨none, .mv 30 (.t 7)⟩, ⟨none, .ia 31 1 (.t 29) (.t 30)⟩, ⟨none, .ld 32 false 1 (.t 31)⟩, ⟨none, .len 33 (.t 32)⟩, ⟨none, .mv 34 (.t 1)⟩, ⟨none, .bin 35 .neq (.t 33) (.t 34)⟩]) (.cond (.t 35) ((.seq (.reg false [⟨none, .mv 6 (.c (.sc (.bool false)))⟩]) (.ret))) (.skip))))) (.reg false [⟨none, .mv 27 (.t 7)⟩, ⟨none, .bin 28 .add (.t 27) (.c (.sc (.int .i64 1)))⟩, ⟨none, .mv 7 (.t 28)⟩]))))))))) ((.seq (.reg false [⟨none, .mv 6 (.c (.sc (.bool true)))⟩]) (.ret))))))))
def K_l05Tests (P : Program) (f : Nat) : Prop := ∀ (g : Int × Int) (p : Int) (t : SL (SL Bool)), AF P f [eG g, eI p, eS 1 (eS 1 eB) t] (.own (eB (testsOk g p t)))
theorem a_l05Tests {P : Program} (hm : P.follows .mixedOrders = true) {g f1 f2 : Nat} (hr : resF P g = some (36, k_l05Tests f1 f2, [.t 6])) (hc1 : K_l01Sig P f1) (hc2 : K_l00In P f2) : K_l05Tests P g := by
 intro g p t
 refine af_of_res hr hm rfl fun hb => ?_
 have hl := bd_ls hb.2.2.1
 simp only [List.length_map] at hl
 simp +contextual -implicitDefEqProofs only [k_l05Tests, eG, eS, go_sem, eI, eB, ↓reduceIte, Nat.reduceEqDiff, Nat.reduceAdd, Nat.reduceLeDiff, Nat.reduceLT]
 refine callQ_self ?_ (hc1 g) ?_
 ·exact rfl
 cases hg : okG g
 ·simp +contextual -implicitDefEqProofs only [testsOk, hg, Bool.not_false, Bool.false_and, go_sem, eB, ↓reduceIte, Nat.reduceEqDiff]
 simp +contextual -implicitDefEqProofs only [Bool.not_true, go_sem, eB, ↓reduceIte, Nat.reduceEqDiff]
 refine callQ_self ?_ (hc2 p 1 8) ?_
 ·exact rfl
 cases hp : isIn p 1 8
 ·simp +contextual -implicitDefEqProofs only [testsOk, hg, hp, Bool.not_false, Bool.false_and, Bool.and_false, go_sem, eB, ↓reduceIte, Nat.reduceEqDiff]
 cases h0 : lenIs g.1 t
 ·have h0' := h0
  simp only [lenIs] at h0'
  simp +contextual -implicitDefEqProofs only [testsOk, tabOk, hg, hp, h0, h0', List.length_map, bne, Bool.not_true, Bool.not_false, Bool.false_and, Bool.and_false, go_sem, eB, ↓reduceIte, Nat.reduceEqDiff, Nat.reduceLeDiff, Nat.reduceLT]
 have h0' := h0
 simp only [lenIs] at h0'
 simp +contextual -implicitDefEqProofs only [h0', List.length_map, bne, Bool.not_true, go_sem, eB, ↓reduceIte, Nat.reduceEqDiff, Nat.reduceLeDiff, Nat.reduceLT]
 refine vc_on (α := Nat) [6, 7, 23, 24, 25, 26, 27, 28, 29, 30, 31, 32, 33, 34, 35] (fun i => [(7, .im none (.sc (.int .i64 i)))]) (fun i => i ≤ t.2.length ∧ (t.2.take i).all (lenIs p) = true) (fun i => t.2.length - i) 0 (by simp only [subEnv, go_sem, ↓reduceIte]; simp) ⟨Nat.zero_le _, rfl⟩ ?_
 rintro i ⟨j1, j2⟩
 by_cases hi : i < t.2.length
 ·have e1 := at_map (f := eS 1 eB) hi
  simp +contextual -implicitDefEqProofs only [e1, hi, Int.ofNat_lt, List.length_map, Int.natCast_nonneg, go_sem, ↓reduceIte, Nat.reduceEqDiff, Nat.reduceLT]
  cases hx : lenIs p t.2[i]
  ·have hx' := hx
   simp only [lenIs] at hx'
   simp +contextual -implicitDefEqProofs only [eS, List.length_map, bne, hx', Bool.not_false, go_sem, ↓reduceIte, Nat.reduceEqDiff, Nat.reduceLeDiff]
   exact D.Le.sc_eq (by simp only [testsOk, tabOk, hg, hp, h0]; rw [all_fail hi hx]; rfl)
  ·have hx' := hx
   simp only [lenIs] at hx'
   simp +contextual -implicitDefEqProofs only [eS, List.length_map, bne, hx', Bool.not_true, go_sem, ↓reduceIte, Nat.reduceEqDiff, Nat.reduceLeDiff]
   rw [wrap_i64 (by omega) (by omega)]
   exact ⟨i + 1, ⟨by omega, all_take_succ hi j2 hx⟩, by omega, Ent.env (by simp only [subEnv, go_sem, ↓reduceIte, Nat.reduceEqDiff]; simp)⟩
 ·simp +contextual -implicitDefEqProofs only [hi, Int.ofNat_lt, List.length_map, go_sem, ↓reduceIte, Nat.reduceEqDiff]
  exact D.Le.sc_eq (by simp only [testsOk, tabOk, hg, hp, h0]; rw [all_of_take hi j2]; rfl)

def k_isFrameB (f1 f2 f3 : Nat) : RC := (.seq (.reg false [⟨none, .box 4 2 (.t 0)⟩, ⟨none, .mv 8 (.c (.sc (.bool false)))⟩]) ((.seq ((.seq (.reg false [⟨none, .ld 11 true 2 (.t 4)⟩, ⟨none, .call (some 12) f1 [(.t 11)]⟩, ⟨none, .un 13 .not (.t 12)⟩, ⟨none, .mv 14 (.t 13)⟩, ⟨some (14, false), .mv 15 (.t 1)⟩, ⟨some (14, false), .call (some 16) f2 [(.t 15), (.c (.sc (.int .i64 1))), (.c (.sc (.int .i64 8)))]⟩, ⟨some (14, false), .un 17 .not (.t 16)⟩, ⟨none, .pick 18 (.t 14) (.c (.sc (.bool true))) (.t 17)⟩, ⟨none, .mv 19 (.t 18)⟩, ⟨some (19, false), .mv 20 (.t 2)⟩, ⟨some (19, false), .fa 21 0 (.t 4)⟩, ⟨some (19, false), .ld 22 false 1 (.t 21)⟩, ⟨some (19, false), .mv 23 (.t 1)⟩, ⟨some (19, false), .call (some 24) f3 [(.t 20), (.t 22), (.t 23)]⟩, ⟨some (19, false), .un 25 .not (.t 24)⟩, ⟨none, .pick 26 (.t 19) (.c (.sc (.bool true))) (.t 25)⟩, ⟨none, .mv 27 (.t 26)⟩, ⟨some (27, false), .mv 28 (.t 3)⟩, ⟨some (27, false), .len 29 (.t 28)⟩, ⟨some (27, false), .fa 30 1 (.t 4)⟩, ⟨some (27, false), .ld 31 false 1 (.t 30)⟩, ⟨some (27, false), .bin 32 .neq (.t 29) (.t 31)⟩, ⟨none, .pick 33 (.t 27) (.c (.sc (.bool true))) (.t 32)⟩]) (.cond (.t 33) ((.seq (.reg false [⟨none, .mv 8 (.c (.sc (.bool false)))⟩]) (.ret))) (.skip)))) ((.seq ((.seq (.reg false [⟨none, .mv 34 (.t 3)⟩, ⟨none, .len 35 (.t 34)⟩, ⟨none, .mv 36 (.c (.sc (.int .i64 0)))⟩]) (.blk 0 (.loop ((.seq (.reg false [⟨none, .bin 37 .lss (.t 36) (.t 35)⟩]) ((.seq (.cond (.t 37) (.skip) (.exit 0)) ((.seq (.blk 1 ((.seq (.reg false [⟨none, .ia 38 1 (.t 34) (.t 36)⟩, ⟨none, .ld 39 false 1 (.t 38)⟩, ⟨none, .mv 10 (.t 39)⟩]) ((.seq (.reg false [⟨none, .mv 40 (.t 10)⟩, ⟨none, .mv 41 (.t 1)⟩, ⟨none, .mv 42 (.t 1)⟩, ⟨none, .call (some 43) f3 [(.t 40), (.t 41), (.t 42)]⟩, ⟨none, .un 44 .not (.t 43)⟩]) (.cond (.t 44) ((.seq (.reg false [⟨none, .mv 8 (.c (.sc (.bool false)))⟩]) (.ret))) (.skip))))))) (.reg false [⟨none, .bin 45 .add (.t 36) (.c (.sc (.int .i64 1)))⟩, ⟨none, .mv 36 (.t 45)⟩]))))))))))) ((.seq (.reg false [⟨none, .mv 8 (.c (.sc (.bool true)))⟩]) (.ret))))))))
def K_isFrameB (P : Program) (f : Nat) : Prop := ∀ (g : Int × Int) (p : Int) (u : SL (SL Bool)) (t : SL (SL (SL Bool))), AF P f [eG g, eI p, eS 1 (eS 1 eB) u, eS 1 (eS 1 (eS 1 eB)) t] (.own (eB (testsOk g p u && actsOk g p t)))
theorem a_isFrameB {P : Program} (hm : P.follows .mixedOrders = true) {g f1 f2 f3 : Nat} (hr : resF P g = some (46, k_isFrameB f1 f2 f3, [.t 8])) (hc1 : K_validSig P f1) (hc2 : K_within P f2) (hc3 : K_isTableB P f3) : K_isFrameB P g := by
 intro g p u t
 refine af_of_res hr hm rfl fun hb => ?_
 have hl := bd_ls hb.2.2.2.1
 simp only [List.length_map] at hl
 simp +contextual -implicitDefEqProofs only [k_isFrameB, eG, eS, go_sem, eI, eB, ↓reduceIte, Nat.reduceEqDiff, Nat.reduceAdd, Nat.reduceLeDiff, Nat.reduceLT]
 refine callQ_self ?_ (hc1 g) ?_
 ·exact rfl
 cases hg : okG g
 ·simp +contextual -implicitDefEqProofs only [testsOk, hg, Bool.not_false, Bool.false_and, go_sem, eB, ↓reduceIte, Nat.reduceEqDiff]
 simp +contextual -implicitDefEqProofs only [Bool.not_true, go_sem, eB, ↓reduceIte, Nat.reduceEqDiff]
 refine callQ_self ?_ (hc2 p 1 8) ?_
 ·exact rfl
 cases hp : isIn p 1 8
 ·simp +contextual -implicitDefEqProofs only [testsOk, hg, hp, Bool.not_false, Bool.false_and, Bool.and_false, go_sem, eB, ↓reduceIte, Nat.reduceEqDiff]
 simp +contextual -implicitDefEqProofs only [Bool.not_true, go_sem, eB, ↓reduceIte, Nat.reduceEqDiff, Nat.reduceLeDiff, Nat.reduceLT]
 refine callQ_self ?_ (hc3 u g.1 p) ?_
 ·exact rfl
 cases hu : tabOk g.1 p u
 ·simp +contextual -implicitDefEqProofs only [testsOk, hg, hp, hu, Bool.not_false, Bool.false_and, Bool.and_false, go_sem, eB, ↓reduceIte, Nat.reduceEqDiff]
 have hT : testsOk g p u = true := by simp [testsOk, hg, hp, hu]
 cases h0 : lenIs g.2 t
 ·have h0' := h0
  simp only [lenIs] at h0'
  simp +contextual -implicitDefEqProofs only [actsOk, hT, h0, h0', List.length_map, bne, Bool.not_true, Bool.not_false, Bool.false_and, Bool.and_false, go_sem, eB, ↓reduceIte, Nat.reduceEqDiff, Nat.reduceAdd, Nat.reduceLeDiff, Nat.reduceLT]
 have h0' := h0
 simp only [lenIs] at h0'
 simp +contextual -implicitDefEqProofs only [h0', List.length_map, bne, Bool.not_true, go_sem, eB, ↓reduceIte, Nat.reduceEqDiff, Nat.reduceAdd, Nat.reduceLeDiff, Nat.reduceLT]
 refine vc_on (α := Nat) [8, 10, 36, 37, 38, 39, 40, 41, 42, 43, 44, 45] (fun i => [(36, .im none (.sc (.int .i64 i)))]) (fun i => i ≤ t.2.length ∧ (t.2.take i).all (tabOk p p) = true) (fun i => t.2.length - i) 0 (by simp only [subEnv, go_sem, ↓reduceIte]; simp) ⟨Nat.zero_le _, rfl⟩ ?_
 rintro i ⟨j1, j2⟩
 by_cases hi : i < t.2.length
 ·have e1 := at_map (f := eS 1 (eS 1 eB)) hi
  simp +contextual -implicitDefEqProofs only [eS, e1, hi, Int.ofNat_lt, List.length_map, Int.natCast_nonneg, go_sem, ↓reduceIte, Nat.reduceEqDiff, Nat.reduceLeDiff, Nat.reduceLT]
  refine callQ_self ?_ (hc3 t.2[i] p p) ?_
  ·exact rfl
  cases hx : tabOk p p t.2[i]
  ·simp +contextual -implicitDefEqProofs only [Bool.not_false, go_sem, eB, ↓reduceIte]
   exact D.Le.sc_eq (by simp only [actsOk, hT, h0]; rw [all_fail hi hx]; rfl)
  ·simp +contextual -implicitDefEqProofs only [Bool.not_true, go_sem, eB, ↓reduceIte, Nat.reduceEqDiff]
   rw [wrap_i64 (by omega) (by omega)]
   exact ⟨i + 1, ⟨by omega, all_take_succ hi j2 hx⟩, by omega, Ent.env (by simp only [subEnv, go_sem, ↓reduceIte, Nat.reduceEqDiff]; simp)⟩
 ·simp +contextual -implicitDefEqProofs only [hi, Int.ofNat_lt, go_sem, ↓reduceIte, Nat.reduceEqDiff]
  exact D.Le.sc_eq (by simp only [actsOk, hT, h0]; rw [all_of_take hi j2]; rfl)

def okMo (m : Mo) : Bool := testsOk m.1 m.2.1 m.2.2.1 && actsOk m.1 m.2.1 m.2.2.2

def k_l05Ok (f1 : Nat) : RC := (.seq (.reg false [⟨none, .mv 2 (.c (.sc (.bool false)))⟩]) ((.seq ((.seq (.reg true [⟨none, .mv 5 (.t 0)⟩, ⟨none, .nck 6 (.t 5)⟩, ⟨none, .fa 7 0 (.t 6)⟩, ⟨none, .ld 8 true 2 (.t 7)⟩, ⟨none, .mv 9 (.t 0)⟩, ⟨none, .nck 10 (.t 9)⟩, ⟨none, .fa 11 2 (.t 10)⟩, ⟨none, .ld 12 false 1 (.t 11)⟩, ⟨none, .mv 13 (.t 0)⟩, ⟨none, .nck 14 (.t 13)⟩, ⟨none, .fa 15 3 (.t 14)⟩, ⟨none, .ld 16 false 1 (.t 15)⟩, ⟨none, .call (some 17) f1 [(.t 8), (.t 12), (.t 16)]⟩, ⟨none, .un 18 .not (.t 17)⟩, ⟨none, .mv 19 (.t 18)⟩, ⟨some (19, false), .mv 20 (.t 0)⟩, ⟨some (19, false), .nck 21 (.t 20)⟩, ⟨some (19, false), .fa 22 4 (.t 21)⟩, ⟨some (19, false), .ld 23 false 1 (.t 22)⟩, ⟨some (19, false), .len 24 (.t 23)⟩, ⟨some (19, false), .mv 25 (.t 0)⟩, ⟨some (19, false), .nck 26 (.t 25)⟩, ⟨some (19, false), .fa 27 0 (.t 26)⟩, ⟨some (19, false), .fa 28 1 (.t 27)⟩, ⟨some (19, false), .ld 29 false 1 (.t 28)⟩, ⟨some (19, false), .bin 30 .neq (.t 24) (.t 29)⟩, ⟨none, .pick 31 (.t 19) (.c (.sc (.bool true))) (.t 30)⟩]) (.cond (.t 31) ((.seq (.reg false [⟨none, .mv 2 (.c (.sc (.bool false)))⟩]) (.ret))) (.skip)))) ((.seq ((.seq (.reg false [⟨none, .mv 3 (.c (.sc (.int .i64 0)))⟩]) (.blk 0 (.loop ((.seq ((.seq (.reg false [⟨none, .mv 32 (.t 3)⟩, ⟨none, .mv 33 (.t 0)⟩, ⟨none, .nck 34 (.t 33)⟩, ⟨none, .fa 35 4 (.t 34)⟩, ⟨none, .ld 36 false 1 (.t 35)⟩, ⟨none, .len 37 (.t 36)⟩, ⟨none, .bin 38 .lss (.t 32) (.t 37)⟩]) (.cond (.t 38) (.skip) (.exit 0)))) ((.seq (.blk 1 ((.seq ((.seq (.reg true [⟨none, .mv 41 (.t 0)⟩, ⟨none, .nck 42 (.t 41)⟩, ⟨none, .fa 43 4 (.t 42)⟩, ⟨none, .ld 44 false 1 (.t 43)⟩, ⟨none, .mv 45 (.t 3)⟩, ⟨none, .ia 46 1 (.t 44) (.t 45)⟩, ⟨none, .ld 47 false 1 (.t 46)⟩, ⟨none, .len 48 (.t 47)⟩, ⟨none, .mv 49 (.t 0)⟩, ⟨none, .nck 50 (.t 49)⟩, ⟨none, .fa 51 2 (.t 50)⟩, ⟨none, .ld 52 false 1 (.t 51)⟩, ⟨none, .bin 53 .neq (.t 48) (.t 52)⟩]) (.cond (.t 53) ((.seq (.reg false [⟨none, .mv 2 (.c (.sc (.bool false)))⟩]) (.ret))) (.skip)))) ((.seq (.reg false [⟨none, .mv 4 (.c (.sc (.int .i64 0)))⟩]) (.blk 2 (.loop ((.seq ((.seq (.reg false [⟨none, .mv 54 (.t 4)⟩, ⟨none, .mv 55 (.t 0)⟩, ⟨none, .nck 56 (.t 55)⟩, ⟨none, .fa 57 4 (.t 56)⟩, ⟨none, .ld 58 false 1 (.t 57)⟩, ⟨none, .mv 59 (.t 3)⟩, ⟨none, .ia 60 1 (.t 58) (.t 59)⟩, ⟨none, .ld 61 false 1 (.t 60)⟩, ⟨none, .len 62 (.t 61)⟩, ⟨none, .bin 63 .lss (.t 54) (.t 62)⟩]) (.cond (.t 63) (.skip) (.exit 2)))) ((.seq (.blk 3 ((.seq (.reg true [⟨none, .mv 66 (.t 0)⟩, ⟨none, .nck 67 (.t 66)⟩, ⟨none, .fa 68 4 (.t 67)⟩, ⟨none, .ld 69 false 1 (.t 68)⟩, ⟨none, .mv 70 (.t 3)⟩, ⟨none, .ia 71 1 (.t 69) (.t 70)⟩, ⟨none, .ld 72 false 1 (.t 71)⟩, ⟨none, .mv 73 (.t 4)⟩, ⟨none, .ia 74 1 (.t 72) (.t 73)⟩, ⟨none, .ld 75 false 1 (.t 74)⟩, ⟨none, .len 76 (.t 75)⟩, ⟨none, .mv 77 (.t 0)⟩, ⟨none, .nck 78 (.t 77)⟩, ⟨none, .fa 79 2 (.t 78)⟩, ⟨none, .ld 80 false 1 (.t 79)⟩, ⟨none, .bin 81 .neq (.t 76) (.t 80)⟩]) (.cond (.t 81) ((.seq (.reg false [⟨none, .mv 2 (.c (.sc (.bool false)))⟩]) (.ret))) (.skip))))) (.reg false [⟨none, .mv 64 (.t 4)⟩, ⟨none, .bin 65 .add (.t 64) (.c (.sc (.int .i64 1)))⟩, ⟨none, .mv 4 (.t 65)⟩])))))))))))) (.reg false [⟨none, .mv 39 (.t 3)⟩, ⟨none, .bin 40 .add (.t 39) (.c (.sc (.int .i64 1)))⟩, ⟨none, .mv 3 (.t 40)⟩]))))))))) ((.seq (.reg false [⟨none, .mv 2 (.c (.sc (.bool true)))⟩]) (.ret))))))))
def K_l05Ok (P : Program) (f : Nat) : Prop := ∀ (m : Mo), AF P f [.pt (eM m) 0] (.own (eB (okMo m)))
theorem a_l05Ok {P : Program} (hm : P.follows .mixedOrders = true) {g f1 : Nat} (hr : resF P g = some (82, k_l05Ok f1, [.t 2])) (hc1 : K_l05Tests P f1) : K_l05Ok P g := by
 intro m
 refine af_of_res hr hm rfl fun hb => ?_
 have hb1 := hb.1
 simp only [eM, eS, D.bd, D.bdL, List.length_map] at hb1
 have hl := hb1.2.2.2.2.1.1
 have hl2 := hb1.2.2.2.2.1.2.2
 unfold maxEl at hl
 simp +contextual -implicitDefEqProofs only [k_l05Ok, eM, eS, go_sem, eI, eB, ↓reduceIte, Nat.reduceEqDiff, Nat.reduceAdd, Nat.reduceLeDiff, Nat.reduceLT]
 refine callQ_self ?_ (hc1 m.1 m.2.1 m.2.2.1) ?_
 ·exact rfl
 cases hT : testsOk m.1 m.2.1 m.2.2.1
 ·simp +contextual -implicitDefEqProofs only [okMo, hT, Bool.not_false, Bool.false_and, go_sem, eB, ↓reduceIte, Nat.reduceEqDiff]
 cases h0 : lenIs m.1.2 m.2.2.2
 ·have h0' := h0
  simp only [lenIs] at h0'
  simp +contextual -implicitDefEqProofs only [okMo, actsOk, hT, h0, h0', List.length_map, bne, Bool.not_true, Bool.not_false, Bool.false_and, Bool.and_false, go_sem, eB, ↓reduceIte, Nat.reduceEqDiff, Nat.reduceAdd, Nat.reduceLeDiff, Nat.reduceLT]
 have h0' := h0
 simp only [lenIs] at h0'
 simp +contextual -implicitDefEqProofs only [okMo, h0', List.length_map, bne, Bool.not_true, go_sem, eB, ↓reduceIte, Nat.reduceEqDiff, Nat.reduceAdd, Nat.reduceLeDiff, Nat.reduceLT]
 refine vc_on (α := Nat) [2, 3, 4, 32, 33, 34, 35, 36, 37, 38, 39, 40, 41, 42, 43, 44, 45, 46, 47, 48, 49, 50, 51, 52, 53, 54, 55, 56, 57, 58, 59, 60, 61, 62, 63, 64, 65, 66, 67, 68, 69, 70, 71, 72, 73, 74, 75, 76, 77, 78, 79, 80, 81] (fun i => [(3, .im none (.sc (.int .i64 i)))]) (fun i => i ≤ m.2.2.2.2.length ∧ (m.2.2.2.2.take i).all (tabOk m.2.1 m.2.1) = true) (fun i => m.2.2.2.2.length - i) 0 (by simp only [subEnv, go_sem, ↓reduceIte]; simp) ⟨Nat.zero_le _, rfl⟩ ?_
 rintro i ⟨j1, j2⟩
 by_cases hi : i < m.2.2.2.2.length
 ·have e1 := at_map (f := eS 1 (eS 1 eB)) hi
  simp +contextual -implicitDefEqProofs only [eS, e1, hi, Int.ofNat_lt, List.length_map, Int.natCast_nonneg, go_sem, ↓reduceIte, Nat.reduceEqDiff, Nat.reduceAdd, Nat.reduceLeDiff, Nat.reduceLT]
  have hli : m.2.2.2.2[i].2.length ≤ 9223372036854775807 := by
   have := bd_ls (bdL_mem hl2 _ (List.mem_map_of_mem (List.getElem_mem hi)))
   simpa only [List.length_map] using this
  cases hy : lenIs m.2.1 m.2.2.2.2[i]
  ·have hy' := hy
   simp only [lenIs] at hy'
   simp +contextual -implicitDefEqProofs only [hy', bne, Bool.not_false, go_sem]
   have hx : tabOk m.2.1 m.2.1 m.2.2.2.2[i] = false := by simp only [tabOk, hy, Bool.false_and]
   exact D.Le.sc_eq (by simp only [actsOk, hT, h0]; rw [all_fail hi hx]; rfl)
  have hy' := hy
  simp only [lenIs] at hy'
  simp +contextual -implicitDefEqProofs only [hy', bne, Bool.not_true, go_sem]
  refine vc_on (α := Nat) [2, 4, 54, 55, 56, 57, 58, 59, 60, 61, 62, 63, 64, 65, 66, 67, 68, 69, 70, 71, 72, 73, 74, 75, 76, 77, 78, 79, 80, 81] (fun k => [(4, .im none (.sc (.int .i64 k)))]) (fun k => k ≤ m.2.2.2.2[i].2.length ∧ (m.2.2.2.2[i].2.take k).all (lenIs m.2.1) = true) (fun k => m.2.2.2.2[i].2.length - k) 0 (by simp only [subEnv, go_sem, ↓reduceIte]; simp) ⟨Nat.zero_le _, rfl⟩ ?_
  rintro k ⟨k1, k2⟩
  by_cases hk : k < m.2.2.2.2[i].2.length
  ·have e2 := at_map (f := eS 1 eB) hk
   simp +contextual -implicitDefEqProofs only [eS, e1, hi, e2, hk, Int.ofNat_lt, List.length_map, Int.natCast_nonneg, go_sem, ↓reduceIte, Nat.reduceEqDiff, Nat.reduceAdd, Nat.reduceLeDiff, Nat.reduceLT]
   cases hz : lenIs m.2.1 m.2.2.2.2[i].2[k]
   ·have hz' := hz
    simp only [lenIs] at hz'
    simp +contextual -implicitDefEqProofs only [hz', bne, Bool.not_false, go_sem]
    have hx : tabOk m.2.1 m.2.1 m.2.2.2.2[i] = false := by simp only [tabOk, hy]; rw [all_fail hk hz]; rfl
    exact D.Le.sc_eq (by simp only [actsOk, hT, h0]; rw [all_fail hi hx]; rfl)
   ·have hz' := hz
    simp only [lenIs] at hz'
    simp +contextual -implicitDefEqProofs only [hz', bne, Bool.not_true, go_sem]
    rw [wrap_i64 (by omega) (by omega)]
    exact ⟨k + 1, ⟨by omega, all_take_succ hk k2 hz⟩, by omega, Ent.env (by simp only [subEnv, go_sem, ↓reduceIte, Nat.reduceEqDiff]; simp)⟩
  ·simp +contextual -implicitDefEqProofs only [eS, e1, hi, hk, Int.ofNat_lt, List.length_map, Int.natCast_nonneg, go_sem, ↓reduceIte, Nat.reduceEqDiff, Nat.reduceAdd, Nat.reduceLeDiff, Nat.reduceLT]
   have hx : tabOk m.2.1 m.2.1 m.2.2.2.2[i] = true := by simp only [tabOk, hy]; rw [all_of_take hk k2]; rfl
   rw [wrap_i64 (by omega) (by omega)]
   exact ⟨i + 1, ⟨by omega, all_take_succ hi j2 hx⟩, by omega, Ent.env (by simp only [subEnv, go_sem, ↓reduceIte, Nat.reduceEqDiff]; simp)⟩
 ·simp +contextual -implicitDefEqProofs only [hi, Int.ofNat_lt, List.length_map, go_sem, ↓reduceIte, Nat.reduceEqDiff, Nat.reduceAdd, Nat.reduceLeDiff, Nat.reduceLT]
  exact D.Le.sc_eq (by simp only [actsOk, hT, h0]; rw [all_of_take hi j2]; rfl)

def k_validModel (f1 : Nat) : RC := (.seq (.reg false [⟨none, .box 1 5 (.t 0)⟩, ⟨none, .mv 2 (.c (.sc (.bool false)))⟩]) ((.seq (.reg false [⟨none, .fa 3 0 (.t 1)⟩, ⟨none, .ld 4 true 2 (.t 3)⟩, ⟨none, .fa 5 2 (.t 1)⟩, ⟨none, .ld 6 false 1 (.t 5)⟩, ⟨none, .fa 7 3 (.t 1)⟩, ⟨none, .ld 8 false 1 (.t 7)⟩, ⟨none, .fa 9 4 (.t 1)⟩, ⟨none, .ld 10 false 1 (.t 9)⟩, ⟨none, .call (some 11) f1 [(.t 4), (.t 6), (.t 8), (.t 10)]⟩, ⟨none, .mv 2 (.t 11)⟩]) (.ret))))
def K_validModel (P : Program) (f : Nat) : Prop := ∀ (m : Mo), AF P f [eM m] (.own (eB (okMo m)))
theorem a_validModel {P : Program} (hm : P.follows .mixedOrders = true) {g f1 : Nat} (hr : resF P g = some (12, k_validModel f1, [.t 2])) (hc1 : K_isFrameB P f1) : K_validModel P g := by
 intro m
 refine af_of_res hr hm rfl fun hb => ?_
 simp +contextual -implicitDefEqProofs only [k_validModel, eM, eS, go_sem, eI, eB, ↓reduceIte, Nat.reduceEqDiff, Nat.reduceAdd, Nat.reduceLeDiff, Nat.reduceLT]
 refine callQ_self ?_ (hc1 m.1 m.2.1 m.2.2.1 m.2.2.2) ?_
 ·exact rfl
 simp +contextual -implicitDefEqProofs only [okMo, go_sem, eB, ↓reduceIte]
end Go.Ax
