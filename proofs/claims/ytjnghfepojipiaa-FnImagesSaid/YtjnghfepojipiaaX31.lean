/- Contracts of functions of the seat, proved over the engine. No condition. -/
import Derived.Test.YtjnghfepojipiaaX30
import Derived.Test.YtjnghfepojipiaaX21
import Derived.Test.YtjnghfepojipiaaX5
import Derived.Test.YtjnghfepojipiaaX4
set_option linter.unusedSimpArgs false
set_option linter.unusedVariables false
set_option linter.unnecessarySimpa false
namespace Go.Ax
set_option linter.unusedSimpArgs false
set_option maxRecDepth 20000
set_option maxHeartbeats 4000000

def ascI (l : List Int) (n : Nat) : Bool := (List.range n).all fun i => decide (l.getD i 0 < l.getD (i + 1) 0)
def asc (l : List Int) : Bool := ascI l (l.length - 1)
theorem ascI_succ {l : List Int} {n : Nat} : ascI l (n + 1) = (ascI l n && decide (l.getD n 0 < l.getD (n + 1) 0)) := by
 simp [ascI, List.range_succ]
theorem ascI_false {l : List Int} {n m : Nat} (h : ascI l n = false) (hm : n ≤ m) : ascI l m = false := by
 rw [ascI, List.all_eq_false] at h ⊢
 obtain ⟨x, hx, h⟩ := h
 exact ⟨x, List.mem_range.2 (by have := List.mem_range.1 hx; omega), h⟩
def isSetB (p : Int) (l : List Int) : Bool := asc l && allIn 0 (p - 1) l
theorem getD_at {α : Type} {l : List α} {i : Nat} {d : α} (h : i < l.length) : l.getD i d = l[i] := by simp [h]
theorem at_mapD {α : Type} {f : α → D} {l : List α} {i : Nat} {d : α} (h : i < l.length) : D.at (l.map f) i = f (l.getD i d) := by rw [at_map h, getD_at h]
theorem wrap_pred {i : Nat} (h : 1 ≤ i) (h2 : i ≤ 9223372036854775807) : IntKind.i64.wrap ((i : Int) - 1) = ((i - 1 : Nat) : Int) := by rw [wrap_i64 (by omega) (by omega)]; omega

def k_ascending : RC := (.seq (.reg false [⟨none, .mv 2 (.c (.sc (.bool false)))⟩]) ((.seq ((.seq (.reg false [⟨none, .mv 3 (.c (.sc (.int .i64 1)))⟩]) (.blk 0 (.loop ((.seq ((.seq (.reg false [⟨none, .mv 4 (.t 3)⟩, ⟨none, .mv 5 (.t 0)⟩, ⟨none, .len 6 (.t 5)⟩, ⟨none, .bin 7 .lss (.t 4) (.t 6)⟩]) (.cond (.t 7) (.skip) (.exit 0)))) ((.seq (.blk 1 ((.seq (.reg true [⟨none, .mv 10 (.t 0)⟩, ⟨none, .mv 11 (.t 3)⟩, ⟨none, .ia 12 1 (.t 10) (.t 11)⟩, ⟨none, .ld 13 false 1 (.t 12)⟩, ⟨none, .mv 14 (.t 0)⟩, ⟨none, .mv 15 (.t 3)⟩, ⟨none, .bin 16 .sub (.t 15) (.c (.sc (.int .i64 1)))⟩, ⟨none, .ia 17 1 (.t 14) (.t 16)⟩, ⟨none, .ld 18 false 1 (.t 17)⟩, ⟨none, .bin 19 .leq (.t 13) (.t 18)⟩]) (.cond (.t 19) ((.seq (.reg false [⟨none, .mv 2 (.c (.sc (.bool false)))⟩]) (.ret))) (.skip))))) (.reg false [⟨none, .mv 8 (.t 3)⟩, ⟨none, .bin 9 .add (.t 8) (.c (.sc (.int .i64 1)))⟩, ⟨none, .mv 3 (.t 9)⟩]))))))))) ((.seq (.reg false [⟨none, .mv 2 (.c (.sc (.bool true)))⟩]) (.ret))))))
def K_ascending (P : Program) (fno : Nat) : Prop := ∀ (s : SL Int), AF P fno [eS 1 eI s] (.own (eB (asc s.2)))
theorem a_ascending {P : Program} (hm : P.follows .mixedOrders = true) {g : Nat} (hr : resF P g = some (20, k_ascending, [.t 2])) : K_ascending P g := by
 intro s
 refine af_of_res hr hm rfl fun hb => ?_
 have hl := bd_ls hb.1
 simp only [List.length_map] at hl
 simp +contextual -implicitDefEqProofs only [k_ascending, eS, go_sem, eB, ↓reduceIte]
 refine vc_on (α := Nat) [2, 3, 4, 5, 6, 7, 8, 9, 10, 11, 12, 13, 14, 15, 16, 17, 18, 19] (fun i => [(3, .im none (.sc (.int .i64 i)))]) (fun i => 1 ≤ i ∧ ascI s.2 (i - 1) = true) (fun i => s.2.length - i) 1 (by simp only [subEnv, go_sem, ↓reduceIte] <;> simp) ⟨Nat.le_refl _, rfl⟩ ?_
 rintro i ⟨h1, h2⟩
 by_cases hi : i < s.2.length
 ·have w1 := wrap_pred h1 (by omega)
  have e1 := at_mapD (f := eI) (d := 0) hi
  have hi' : i - 1 < s.2.length := by omega
  have e2 := at_mapD (f := eI) (d := 0) hi'
  have hs := ascI_succ (l := s.2) (n := i - 1)
  rw [show i - 1 + 1 = i by omega, h2, Bool.true_and] at hs
  simp +contextual -implicitDefEqProofs only [hi, hi', e1, e2, w1, Int.toNat_natCast, go_sem, eI, ↓reduceIte, Nat.reduceEqDiff, Nat.reduceLeDiff, Nat.reduceLT, Int.ofNat_lt, List.length_map, Int.natCast_nonneg]
  refine ⟨fun h => D.Le.sc_eq ?_, fun h => ?_⟩
  ·have : ascI s.2 i = false := by rw [hs]; simpa using h
   rw [asc, ascI_false this (by omega)]
  ·rw [wrap_i64 (by omega) (by omega)]
   exact ⟨i + 1, ⟨by omega, by rw [Nat.add_sub_cancel, hs]; simpa using h⟩, by omega, Ent.env (by simp only [subEnv, go_sem, ↓reduceIte, Nat.reduceEqDiff] <;> simp)⟩
 ·simp +contextual -implicitDefEqProofs only [hi, go_sem, ↓reduceIte, Nat.reduceEqDiff, Int.ofNat_lt, List.length_map]
  refine D.Le.sc_eq ?_
  congr 1
  unfold asc
  cases hh : ascI s.2 (s.2.length - 1) with
  | true => rfl
  | false => rw [ascI_false hh (by omega)] at h2; cases h2

def k_isSet (f1 f2 : Nat) : RC := (.seq (.reg false [⟨none, .box 2 5 (.t 0)⟩, ⟨none, .mv 4 (.c (.sc (.bool false)))⟩]) ((.seq (.reg false [⟨none, .mv 5 (.t 1)⟩, ⟨none, .call (some 6) f1 [(.t 5)]⟩, ⟨none, .mv 7 (.t 6)⟩, ⟨some (7, true), .mv 8 (.t 1)⟩, ⟨some (7, true), .fa 9 2 (.t 2)⟩, ⟨some (7, true), .ld 10 false 1 (.t 9)⟩, ⟨some (7, true), .call (some 11) f2 [(.t 8), (.t 10)]⟩, ⟨none, .pick 12 (.t 7) (.t 11) (.c (.sc (.bool false)))⟩, ⟨none, .mv 4 (.t 12)⟩]) (.ret))))
def K_isSet (P : Program) (fno : Nat) : Prop := ∀ (m : Mo) (s : SL Int) (hp : 0 ≤ m.2.1 ∧ m.2.1 ≤ 1048576), AF P fno [eM m, eS 1 eI s] (.own (eB (isSetB m.2.1 s.2)))
theorem a_isSet {P : Program} (hm : P.follows .mixedOrders = true) {g f1 f2 : Nat} (hr : resF P g = some (13, k_isSet f1 f2, [.t 4])) (hc1 : K_ascending P f1) (hc2 : K_inRange P f2) : K_isSet P g := by
 intro m s hp
 refine af_of_res hr hm rfl fun hb => ?_
 simp +contextual -implicitDefEqProofs only [k_isSet, eM, eS, go_sem, eI, eB, ↓reduceIte, Nat.reduceEqDiff, Nat.reduceAdd, Nat.reduceLT]
 refine callQ_self (ds := [eS 1 eI s]) (by rfl) (hc1 s) ?_
 cases h : asc s.2
 ·simp +contextual -implicitDefEqProofs only [isSetB, h, eB, Bool.false_and, go_sem, ↓reduceIte, Nat.reduceEqDiff]
 simp +contextual -implicitDefEqProofs only [isSetB, h, eB, Bool.true_and, go_sem, ↓reduceIte, Nat.reduceEqDiff, Nat.reduceAdd, Nat.reduceLeDiff, Nat.reduceLT]
 refine callQ_self (ds := [eS 1 eI s, eI m.2.1]) (by rfl) (hc2 s m.2.1 hp.1 hp.2) ?_
 simp +contextual -implicitDefEqProofs only [eB, go_sem, ↓reduceIte, Nat.reduceEqDiff]

def k_l05Set (f1 : Nat) : RC := (.seq (.reg false [⟨none, .mv 4 (.c (.sc (.bool false)))⟩]) ((.seq ((.seq (.reg false [⟨none, .mv 5 (.c (.sc (.int .i64 0)))⟩]) (.blk 0 (.loop ((.seq ((.seq (.reg false [⟨none, .mv 6 (.t 5)⟩, ⟨none, .mv 7 (.t 1)⟩, ⟨none, .len 8 (.t 7)⟩, ⟨none, .bin 9 .lss (.t 6) (.t 8)⟩]) (.cond (.t 9) (.skip) (.exit 0)))) ((.seq (.blk 1 ((.seq (.reg true [⟨none, .mv 12 (.t 1)⟩, ⟨none, .mv 13 (.t 5)⟩, ⟨none, .ia 14 1 (.t 12) (.t 13)⟩, ⟨none, .ld 15 false 1 (.t 14)⟩, ⟨none, .mv 16 (.t 0)⟩, ⟨none, .nck 17 (.t 16)⟩, ⟨none, .fa 18 2 (.t 17)⟩, ⟨none, .ld 19 false 1 (.t 18)⟩, ⟨none, .bin 20 .sub (.t 19) (.c (.sc (.int .i64 1)))⟩, ⟨none, .call (some 21) f1 [(.t 15), (.c (.sc (.int .i64 0))), (.t 20)]⟩, ⟨none, .un 22 .not (.t 21)⟩, ⟨none, .mv 23 (.t 22)⟩, ⟨some (23, false), .mv 24 (.t 5)⟩, ⟨some (23, false), .bin 25 .gtr (.t 24) (.c (.sc (.int .i64 0)))⟩, ⟨some (23, false), .mv 26 (.t 25)⟩, ⟨some (26, true), .mv 27 (.t 1)⟩, ⟨some (26, true), .mv 28 (.t 5)⟩, ⟨some (26, true), .bin 29 .sub (.t 28) (.c (.sc (.int .i64 1)))⟩, ⟨some (26, true), .ia 30 1 (.t 27) (.t 29)⟩, ⟨some (26, true), .ld 31 false 1 (.t 30)⟩, ⟨some (26, true), .mv 32 (.t 1)⟩, ⟨some (26, true), .mv 33 (.t 5)⟩, ⟨some (26, true), .ia 34 1 (.t 32) (.t 33)⟩, ⟨some (26, true), .ld 35 false 1 (.t 34)⟩, ⟨some (26, true), .bin 36 .geq (.t 31) (.t 35)⟩, ⟨some (23, false), .pick 37 (.t 26) (.t 36) (.c (.sc (.bool false)))⟩, ⟨none, .pick 38 (.t 23) (.c (.sc (.bool true))) (.t 37)⟩]) (.cond (.t 38) ((.seq (.reg false [⟨none, .mv 4 (.c (.sc (.bool false)))⟩]) (.ret))) (.skip))))) (.reg false [⟨none, .mv 10 (.t 5)⟩, ⟨none, .bin 11 .add (.t 10) (.c (.sc (.int .i64 1)))⟩, ⟨none, .mv 5 (.t 11)⟩]))))))))) ((.seq (.reg false [⟨none, .mv 4 (.c (.sc (.bool true)))⟩]) (.ret))))))
def K_l05Set (P : Program) (fno : Nat) : Prop := ∀ (m : Mo) (s : SL Int) (hp : 0 ≤ m.2.1 ∧ m.2.1 ≤ 1048576), AF P fno [.pt (eM m) 0, eS 1 eI s] (.own (eB (isSetB m.2.1 s.2)))
theorem a_l05Set {P : Program} (hm : P.follows .mixedOrders = true) {g f1 : Nat} (hr : resF P g = some (39, k_l05Set f1, [.t 4])) (hc1 : K_l00In P f1) : K_l05Set P g := by
 intro m s hp
 refine af_of_res hr hm rfl fun hb => ?_
 have hl := bd_ls hb.2.1
 simp only [List.length_map] at hl
 have wp : IntKind.i64.wrap (m.2.1 - 1) = m.2.1 - 1 := wrap_i64 (by omega) (by omega)
 simp +contextual -implicitDefEqProofs only [k_l05Set, eS, eM, go_sem, eI, eB, ↓reduceIte, Nat.reduceAdd]
 refine vc_on (α := Nat) [4, 5, 6, 7, 8, 9, 10, 11, 12, 13, 14, 15, 16, 17, 18, 19, 20, 21, 22, 23, 24, 25, 26, 27, 28, 29, 30, 31, 32, 33, 34, 35, 36, 37, 38] (fun i => [(5, .im none (.sc (.int .i64 i)))]) (fun i => i ≤ s.2.length ∧ ascI s.2 (i - 1) = true ∧ (s.2.take i).all (fun x => isIn x 0 (m.2.1 - 1)) = true) (fun i => s.2.length - i) 0 (by simp only [subEnv, go_sem, ↓reduceIte] <;> simp) ⟨Nat.zero_le _, rfl, rfl⟩ ?_
 rintro i ⟨h1, h2, h3⟩
 by_cases hi : i < s.2.length
 ·have e1 := at_mapD (f := eI) (d := 0) hi
  simp +contextual -implicitDefEqProofs only [hi, e1, wp, Int.toNat_natCast, D.size, D.sizeL, go_sem, eI, ↓reduceIte, Nat.reduceEqDiff, Nat.reduceAdd, Nat.reduceLeDiff, Nat.reduceLT, Int.ofNat_lt, List.length_map, Int.natCast_nonneg]
  refine callQ_self (ds := [eI (s.2.getD i 0), eI 0, eI (m.2.1 - 1)]) (by rfl) (hc1 (s.2.getD i 0) 0 (m.2.1 - 1)) ?_
  cases hx : isIn (s.2.getD i 0) 0 (m.2.1 - 1)
  ·simp +contextual -implicitDefEqProofs only [eB, Bool.not_false, go_sem, ↓reduceIte, Nat.reduceEqDiff]
   refine D.Le.sc_eq ?_
   have : allIn 0 (m.2.1 - 1) s.2 = false := by
    unfold allIn
    exact all_fail hi (by rw [← getD_at hi]; exact hx)
   rw [isSetB, this, Bool.and_false]
  have h4 : (s.2.take (i + 1)).all (fun x => isIn x 0 (m.2.1 - 1)) = true := all_take_succ hi h3 (by rw [← getD_at hi]; exact hx)
  have w2 : IntKind.i64.wrap (↑i + 1) = ((i + 1 : Nat) : Int) := by rw [wrap_i64 (by omega) (by omega)]; omega
  by_cases h0 : i = 0
  ·have hg : ¬ ((i : Int) > 0) := by omega
   simp +contextual -implicitDefEqProofs only [h0, eB, Bool.not_true, gt_iff_lt, Int.lt_irrefl, Int.natCast_zero, go_sem, ↓reduceIte, Nat.reduceEqDiff]
   rw [show IntKind.i64.wrap (0 + 1) = 1 from by decide]
   exact ⟨1, ⟨by omega, rfl, by simpa [h0] using h4⟩, by omega, Ent.env (by simp only [subEnv, go_sem, ↓reduceIte, Nat.reduceEqDiff] <;> simp)⟩
  ·have hg : (i : Int) > 0 := by omega
   have hg' : (0 : Int) < i := hg
   have w1 := wrap_pred (show 1 ≤ i by omega) (by omega)
   have hi' : i - 1 < s.2.length := by omega
   have e2 := at_mapD (f := eI) (d := 0) hi'
   have hs := ascI_succ (l := s.2) (n := i - 1)
   rw [show i - 1 + 1 = i by omega, h2, Bool.true_and] at hs
   simp +contextual -implicitDefEqProofs only [hg, hi, hi', e1, e2, w1, w2, eB, Int.toNat_natCast, Bool.not_true, go_sem, eI, ↓reduceIte, Nat.reduceEqDiff, Nat.reduceLeDiff, Nat.reduceLT, Int.ofNat_lt, List.length_map, Int.natCast_nonneg]
   refine ⟨fun h => D.Le.sc_eq ?_, fun h => ?_⟩
   ·have : ascI s.2 i = false := by rw [hs]; simpa using h
    rw [isSetB, asc, ascI_false this (by omega), Bool.false_and]
   ·exact ⟨i + 1, ⟨by omega, by rw [Nat.add_sub_cancel, hs]; simpa using h, h4⟩, by omega, Ent.env (by simp only [subEnv, go_sem, ↓reduceIte, Nat.reduceEqDiff] <;> simp)⟩
 ·simp +contextual -implicitDefEqProofs only [hi, go_sem, ↓reduceIte, Nat.reduceEqDiff, Int.ofNat_lt, List.length_map]
  refine D.Le.sc_eq ?_
  have hi2 : i = s.2.length := by omega
  subst hi2
  rw [List.take_length] at h3
  unfold isSetB asc allIn
  rw [h2, h3]
  rfl
end Go.Ax
