/- Contracts of functions of the seat, proved over the engine. No condition. -/
import Derived.Test.YtjnghfepojipiaaX30
import Derived.Test.YtjnghfepojipiaaX21
import Derived.Test.YtjnghfepojipiaaX5
import Derived.Test.YtjnghfepojipiaaX4
set_option linter.unusedSimpArgs false
set_option linter.unusedVariables false
set_option linter.unnecessarySimpa false
namespace Go.Ax
set_option linter.unusedSimpArgs false
set_option maxRecDepth 20000
set_option maxHeartbeats 4000000

def ascI (l : List Int) (n : Nat) : Bool := (List.range n).all fun i => decide (l.getD i 0 < l.getD (i + 1) 0)
def asc (l : List Int) : Bool := ascI l (l.length - 1)
theorem ascI_succ {l : List Int} {n : Nat} : ascI l (n + 1) = (ascI l n && decide (l.getD n 0 < l.getD (n + 1) 0)) := by
 simp [ascI, List.range_succ]
theorem ascI_false {l : List Int} {n m : Nat} (h : ascI l n = false) (hm : n ≤ m) : ascI l m = false := by
 rw [ascI, List.all_eq_false] at h ⊢
 obtain ⟨x, hx, h⟩ := h
 exact ⟨x, List.mem_range.2 (by have := List.mem_range.1 hx; omega), h⟩
def isSetB (p : Int) (l : List Int) : Bool := asc l && allIn 0 (p - 1) l
theorem getD_at {α : Type} {l : List α} {i : Nat} {d : α} (h : i < l.length) : l.getD i d = l[i] := by simp [h]
theorem at_mapD {α : Type} {f : α → D} {l : List α} {i : Nat} {d : α} (h : i < l.length) : D.at (l.map f) i = f (l.getD i d) := by rw [at_map h, getD_at h]
theorem wrap_pred {i : Nat} (h : 1 ≤ i) (h2 : i ≤ 9223372036854775807) : IntKind.i64.wrap ((i : Int) - 1) = ((i - 1 : Nat) : Int) := by rw [wrap_i64 (by omega) (by omega)]; omega

def k_ascending : RC := (.seq (.reg false [⟨none, .mv 2 (.c (.sc (.bool false)))⟩]) ((.seq ((.seq (.reg false [⟨none, .mv 3 (.c (.sc (.int .i64 1)))⟩]) (.blk 0 (.loop ((.seq ((.seq (.reg false [⟨none, .mv 4 (.t 3)⟩, ⟨none, .mv 5 (.t 0)⟩, ⟨none, .len 6 (.t 5)⟩, ⟨none, .bin 7 .lss (.t 4) (.t 6)⟩]) (.cond (.t 7) (.skip) (.exit 0)))) ((.seq (.blk 1 ((.seq (.reg true [⟨none, .mv 10 (.t 0)⟩, ⟨none, .mv 11 (.t 3)⟩, ⟨none, .ia 12 1 (.t 10) (.t 11)⟩, ⟨none, .ld 13 false 1 (.t 12)⟩, ⟨none, .mv 14 (.t 0)⟩, ⟨none, .mv 15 (.t 3)⟩, ⟨none, .bin 16 .sub (.t 15) (.c (.sc (.int .i64 1)))⟩, ⟨none, .ia 17 1 (.t 14) (.t 16)⟩, ⟨none, .ld 18 false 1 (.t 17)⟩, ⟨none, .bin 19 .leq (.t 13) (.t 18)⟩]) (.cond (.t 19) ((.seq (.reg false [⟨none, .mv 2 (.c (.sc (.bool false)))⟩]) (.ret))) (.skip))))) (.reg false [⟨none, .mv 8 (.t 3)⟩, ⟨none, .bin 9 .add (.t 8) (.c (.sc (.int .i64 1)))⟩, ⟨none, .mv 3 (.t 9)⟩]))))))))) ((.seq (.reg false [⟨none, .mv 2 (.c (.sc (.bool true)))⟩]) (.ret))))))
def K_ascending (P : Program) (fno : Nat) : Prop := ∀ (s : SL Int), AF P fno [eS 1 eI s] (.own (eB (asc s.2)))
theorem a_ascending {P : Program} (hm : P.follows .mixedOrders = true) {g : Nat} (hr : resF P g = some (20, k_ascending, [.t 2])) : K_ascending P g := by
 intro s
 refine af_of_res hr hm rfl fun hb => ?_
 have hl := bd_ls hb.1
 simp only [List.length_map] at hl
 simp +contextual -implicitDefEqProofs only [k_ascending, eS, go_sem, eI, eB, ↓reduceIte, Nat.reduceEqDiff, Nat.reduceAdd, Nat.reduceLeDiff, Nat.reduceMul, Nat.reduceBEq, Nat.reduceBneDiff, Nat.reduceLT, Nat.reduceSub, Int.ofNat_lt, List.length_map, Int.natCast_nonneg]
 refine vc_on (α := Nat) [2, 3, 4, 5, 6, 7, 8, 9, 10, 11, 12, 13, 14, 15, 16, 17, 18, 19] (fun i => [(3, .im none (.sc (.int .i64 i)))]) (fun i => 1 ≤ i ∧ ascI s.2 (i - 1) = true) (fun i => s.2.length - i) 1 (by simp only [subEnv, go_sem, ↓reduceIte, Nat.reduceEqDiff, Nat.reduceBEq, keep, memN, List.length_map, Bool.or_false, Bool.false_or, Bool.or_self] <;> simp) ⟨Nat.le_refl _, rfl⟩ ?_
 rintro i ⟨h1, h2⟩
 by_cases hi : i < s.2.length
 ·have w1 := wrap_pred h1 (by omega)
  have e1 := at_mapD (f := eI) (d := 0) hi
  have hi' : i - 1 < s.2.length := by omega
  have e2 := at_mapD (f := eI) (d := 0) hi'
  have hs := ascI_succ (l := s.2) (n := i - 1)
  rw [show i - 1 + 1 = i by omega, h2, Bool.true_and] at hs
  simp +contextual -implicitDefEqProofs only [hi, hi', e1, e2, w1, Int.toNat_natCast, go_sem, eI, eB, ↓reduceIte, Nat.reduceEqDiff, Nat.reduceAdd, Nat.reduceLeDiff, Nat.reduceMul, Nat.reduceBEq, Nat.reduceBneDiff, Nat.reduceLT, Nat.reduceSub, Int.ofNat_lt, List.length_map, Int.natCast_nonneg]
  refine ⟨fun h => D.Le.sc_eq ?_, fun h => ?_⟩
  ·have : ascI s.2 i = false := by rw [hs]; simpa using h
   rw [asc, ascI_false this (by omega)]
  ·rw [wrap_i64 (by omega) (by omega)]
   exact ⟨i + 1, ⟨by omega, by rw [Nat.add_sub_cancel, hs]; simpa using h⟩, by omega, Ent.env (by simp only [subEnv, go_sem, ↓reduceIte, Nat.reduceEqDiff, Nat.reduceBEq, keep, memN, List.length_map, Bool.or_false, Bool.false_or, Bool.or_self] <;> simp)⟩
 ·simp +contextual -implicitDefEqProofs only [hi, go_sem, eI, eB, ↓reduceIte, Nat.reduceEqDiff, Nat.reduceAdd, Nat.reduceLeDiff, Nat.reduceMul, Nat.reduceBEq, Nat.reduceBneDiff, Nat.reduceLT, Nat.reduceSub, Int.ofNat_lt, List.length_map, Int.natCast_nonneg]
  refine D.Le.sc_eq ?_
  congr 1
  unfold asc
  cases hh : ascI s.2 (s.2.length - 1) with
  | true => rfl
  | false => rw [ascI_false hh (by omega)] at h2; cases h2

def k_isSet (f1 f2 : Nat) : RC := (.seq (.reg false [⟨none, .box 2 5 (.t 0)⟩, ⟨none, .mv 4 (.c (.sc (.bool false)))⟩]) ((.seq (.reg false [⟨none, .mv 5 (.t 1)⟩, ⟨none, .call (some 6) f1 [(.t 5)]⟩, ⟨none, .mv 7 (.t 6)⟩, ⟨some (7, true), .mv 8 (.t 1)⟩, ⟨some (7, true), .fa 9 2 (.t 2)⟩, ⟨some (7, true), .ld 10 false 1 (.t 9)⟩, ⟨some (7, true), .call (some 11) f2 [(.t 8), (.t 10)]⟩, ⟨none, .pick 12 (.t 7) (.t 11) (.c (.sc (.bool false)))⟩, ⟨none, .mv 4 (.t 12)⟩]) (.ret))))
def K_isSet (P : Program) (fno : Nat) : Prop := ∀ (m : Mo) (s : SL Int) (hp : 0 ≤ m.2.1 ∧ m.2.1 ≤ 1048576), AF P fno [eM m, eS 1 eI s] (.own (eB (isSetB m.2.1 s.2)))
theorem a_isSet {P : Program} (hm : P.follows .mixedOrders = true) {g f1 f2 : Nat} (hr : resF P g = some (13, k_isSet f1 f2, [.t 4])) (hc1 : K_ascending P f1) (hc2 : K_inRange P f2) : K_isSet P g := by
 intro m s hp
 refine af_of_res hr hm rfl fun hb => ?_
 simp +contextual -implicitDefEqProofs only [k_isSet, eM, eG, eS, go_sem, eI, eB, ↓reduceIte, Nat.reduceEqDiff, Nat.reduceAdd, Nat.reduceLeDiff, Nat.reduceMul, Nat.reduceBEq, Nat.reduceBneDiff, Nat.reduceLT, Nat.reduceSub, Int.ofNat_lt, List.length_map, Int.natCast_nonneg]
 refine callQ_self (ds := [eS 1 eI s]) (by rfl) (hc1 s) ?_
 cases h : asc s.2
 ·simp +contextual -implicitDefEqProofs only [isSetB, h, eB, bne, Bool.not_true, Bool.not_false, Bool.true_and, Bool.false_and, Bool.and_true, Bool.and_false, Bool.true_or, Bool.false_or, Bool.or_true, Bool.or_false, go_sem, eI, ↓reduceIte, Nat.reduceEqDiff, Nat.reduceAdd, Nat.reduceLeDiff, Nat.reduceMul, Nat.reduceBEq, Nat.reduceBneDiff, Nat.reduceLT, Nat.reduceSub, Int.ofNat_lt, List.length_map, Int.natCast_nonneg]
 simp +contextual -implicitDefEqProofs only [isSetB, h, eB, bne, Bool.not_true, Bool.not_false, Bool.true_and, Bool.false_and, Bool.and_true, Bool.and_false, Bool.true_or, Bool.false_or, Bool.or_true, Bool.or_false, go_sem, eI, ↓reduceIte, Nat.reduceEqDiff, Nat.reduceAdd, Nat.reduceLeDiff, Nat.reduceMul, Nat.reduceBEq, Nat.reduceBneDiff, Nat.reduceLT, Nat.reduceSub, Int.ofNat_lt, List.length_map, Int.natCast_nonneg]
 refine callQ_self (ds := [eS 1 eI s, eI m.2.1]) (by rfl) (hc2 s m.2.1 hp.1 hp.2) ?_
 simp +contextual -implicitDefEqProofs only [isSetB, h, eB, bne, Bool.not_true, Bool.not_false, Bool.true_and, Bool.false_and, Bool.and_true, Bool.and_false, Bool.true_or, Bool.false_or, Bool.or_true, Bool.or_false, go_sem, eI, ↓reduceIte, Nat.reduceEqDiff, Nat.reduceAdd, Nat.reduceLeDiff, Nat.reduceMul, Nat.reduceBEq, Nat.reduceBneDiff, Nat.reduceLT, Nat.reduceSub, Int.ofNat_lt, List.length_map, Int.natCast_nonneg]

def tRow (r : SL Bool) (l : List Int) : SL Bool := (some false, l.map fun x => r.2.getD x.toNat false)
def aTab (a : SL (SL Bool)) (l : List Int) : SL (SL Bool) := (some false, l.map fun x => tRow (a.2.getD x.toNat (none, [])) l)

def pickMo (m : Mo) (l : List Int) : Mo := (m.1, l.length, (nnL m.2.2.1.2, m.2.2.1.2.map fun r => tRow r l), (nnL m.2.2.2.2, m.2.2.2.2.map fun a => aTab a l))
def dRow (r : SL Bool) (l : List Int) : D := .ls (some false) 1 (l.map fun x => .sc (.bool (r.2.getD x.toNat false)))
def dTab (a : SL (SL Bool)) (l k : List Int) : D := .ls (some false) 1 (k.map fun x => dRow (a.2.getD x.toNat (none, [])) l)
structure PickOk (m : Mo) (l : List Int) : Prop where
 small : l.length ≤ 1000
 st : m.2.2.1.2.length ≤ 1000
 sa : m.2.2.2.2.length ≤ 1000
 nn : ∀ x ∈ l, 0 ≤ x
 t : ∀ r ∈ m.2.2.1.2, ∀ x ∈ l, x.toNat < r.2.length
 a : ∀ a ∈ m.2.2.2.2, ∀ x ∈ l, x.toNat < a.2.length
 b : ∀ a ∈ m.2.2.2.2, ∀ r ∈ a.2, ∀ x ∈ l, x.toNat < r.2.length
theorem dRow_eq {r : SL Bool} {l : List Int} : eS 1 eB (tRow r l) = dRow r l := by simp [eS, tRow, dRow, eB]
theorem dTab_eq {a : SL (SL Bool)} {l : List Int} : eS 1 (eS 1 eB) (aTab a l) = dTab a l l := by simp only [eS, aTab, dTab, ← dRow_eq, List.map_map, Function.comp_def]
theorem pick_eq {m : Mo} {l : List Int} : eM (pickMo m l) = .ag [.sc (.int .i64 m.1.1), .sc (.int .i64 m.1.2), .sc (.int .i64 l.length), .ls (nnL m.2.2.1.2) 1 (m.2.2.1.2.map fun r => dRow r l), .ls (nnL m.2.2.2.2) 1 (m.2.2.2.2.map fun a => dTab a l l)] := by
 simp [eM, eI, pickMo, eS, ← dRow_eq, ← dTab_eq]
theorem nat_lt_of {x : Int} {n : Nat} (h0 : 0 ≤ x) (h : x.toNat < n) : x < (n : Int) := by omega

def k_l05Pick : RC := (.seq (.reg false [⟨none, .zer 4 5 (.ag [(.sc (.int .i64 0)), (.sc (.int .i64 0)), (.sc (.int .i64 0)), (.ls (some true) 1 []), (.ls (some true) 1 [])])⟩]) ((.seq (.reg false [⟨none, .mv 14 (.t 0)⟩, ⟨none, .nck 15 (.t 14)⟩, ⟨none, .fa 16 0 (.t 15)⟩, ⟨none, .ld 17 true 2 (.t 16)⟩, ⟨none, .mv 18 (.t 1)⟩, ⟨none, .len 19 (.t 18)⟩, ⟨none, .bld 20 (.ag [(.sc (.int .i64 0)), (.sc (.int .i64 0)), (.sc (.int .i64 0)), (.ls (some true) 1 []), (.ls (some true) 1 [])]) [(0, 2, (.t 17)), (2, 1, (.t 19))]⟩, ⟨none, .zer 5 5 (.ag [(.sc (.int .i64 0)), (.sc (.int .i64 0)), (.sc (.int .i64 0)), (.ls (some true) 1 []), (.ls (some true) 1 [])])⟩, ⟨none, .st 5 (.t 5) (.t 20)⟩]) ((.seq ((.seq (.reg false [⟨none, .mv 6 (.c (.sc (.int .i64 0)))⟩]) (.blk 0 (.loop ((.seq ((.seq (.reg false [⟨none, .mv 21 (.t 6)⟩, ⟨none, .mv 22 (.t 0)⟩, ⟨none, .nck 23 (.t 22)⟩, ⟨none, .fa 24 3 (.t 23)⟩, ⟨none, .ld 25 false 1 (.t 24)⟩, ⟨none, .len 26 (.t 25)⟩, ⟨none, .bin 27 .lss (.t 21) (.t 26)⟩]) (.cond (.t 27) (.skip) (.exit 0)))) ((.seq (.blk 1 ((.seq (.reg false [⟨none, .bs 30 1 (.sc (.bool false)) 0 []⟩, ⟨none, .mv 7 (.t 30)⟩]) ((.seq ((.seq (.reg false [⟨none, .mv 8 (.c (.sc (.int .i64 0)))⟩]) (.blk 2 (.loop ((.seq ((.seq (.reg false [⟨none, .mv 31 (.t 8)⟩, ⟨none, .mv 32 (.t 1)⟩, ⟨none, .len 33 (.t 32)⟩, ⟨none, .bin 34 .lss (.t 31) (.t 33)⟩]) (.cond (.t 34) (.skip) (.exit 2)))) ((.seq (.blk 3 (.reg true [⟨none, .mv 37 (.t 7)⟩, ⟨none, .mv 38 (.t 0)⟩, ⟨none, .nck 39 (.t 38)⟩, ⟨none, .fa 40 3 (.t 39)⟩, ⟨none, .ld 41 false 1 (.t 40)⟩, ⟨none, .mv 42 (.t 6)⟩, ⟨none, .ia 43 1 (.t 41) (.t 42)⟩, ⟨none, .ld 44 false 1 (.t 43)⟩, ⟨none, .mv 45 (.t 1)⟩, ⟨none, .mv 46 (.t 8)⟩, ⟨none, .ia 47 1 (.t 45) (.t 46)⟩, ⟨none, .ld 48 false 1 (.t 47)⟩, ⟨none, .ia 49 1 (.t 44) (.t 48)⟩, ⟨none, .ld 50 false 1 (.t 49)⟩, ⟨none, .bs 51 1 (.sc (.bool false)) 1 [(0, (.t 50))]⟩, ⟨none, .app 52 1 1 (.t 37) (.t 51)⟩, ⟨none, .mv 7 (.t 52)⟩])) (.reg false [⟨none, .mv 35 (.t 8)⟩, ⟨none, .bin 36 .add (.t 35) (.c (.sc (.int .i64 1)))⟩, ⟨none, .mv 8 (.t 36)⟩]))))))))) (.reg false [⟨none, .fa 53 3 (.t 5)⟩, ⟨none, .ld 54 false 1 (.t 53)⟩, ⟨none, .mv 55 (.t 7)⟩, ⟨none, .bs 56 1 (.ls (some true) 1 []) 1 [(0, (.t 55))]⟩, ⟨none, .app 57 1 24 (.t 54) (.t 56)⟩, ⟨none, .fa 58 3 (.t 5)⟩, ⟨none, .st 1 (.t 58) (.t 57)⟩])))))) (.reg false [⟨none, .mv 28 (.t 6)⟩, ⟨none, .bin 29 .add (.t 28) (.c (.sc (.int .i64 1)))⟩, ⟨none, .mv 6 (.t 29)⟩]))))))))) ((.seq ((.seq (.reg false [⟨none, .mv 9 (.c (.sc (.int .i64 0)))⟩]) (.blk 4 (.loop ((.seq ((.seq (.reg false [⟨none, .mv 59 (.t 9)⟩, ⟨none, .mv 60 (.t 0)⟩, ⟨none, .nck 61 (.t 60)⟩, ⟨none, .fa 62 4 (.t 61)⟩, ⟨none, .ld 63 false 1 (.t 62)⟩, ⟨none, .len 64 (.t 63)⟩, ⟨none, .bin 65 .lss (.t 59) (.t 64)⟩]) (.cond (.t 65) (.skip) (.exit 4)))) ((.seq (.blk 5 ((.seq (.reg false [⟨none, .bs 68 1 (.ls (some true) 1 []) 0 []⟩, ⟨none, .mv 10 (.t 68)⟩]) ((.seq ((.seq (.reg false [⟨none, .mv 11 (.c (.sc (.int .i64 0)))⟩]) (.blk 6 (.loop ((.seq ((.seq (.reg false [⟨none, .mv 69 (.t 11)⟩, ⟨none, .mv 70 (.t 1)⟩, ⟨none, .len 71 (.t 70)⟩, ⟨none, .bin 72 .lss (.t 69) (.t 71)⟩]) (.cond (.t 72) (.skip) (.exit 6)))) ((.seq (.blk 7 ((.seq (.reg false [⟨none, .bs 75 1 (.sc (.bool false)) 0 []⟩, ⟨none, .mv 12 (.t 75)⟩]) ((.seq ((.seq (.reg false [⟨none, .mv 13 (.c (.sc (.int .i64 0)))⟩]) (.blk 8 (.loop ((.seq ((.seq (.reg false [⟨none, .mv 76 (.t 13)⟩, ⟨none, .mv 77 (.t 1)⟩, ⟨none, .len 78 (.t 77)⟩, ⟨none, .bin 79 .lss (.t 76) (.t 78)⟩]) (.cond (.t 79) (.skip) (.exit 8)))) ((.seq (.blk 9 (.reg true [⟨none, .mv 82 (.t 12)⟩, ⟨none, .mv 83 (.t 0)⟩, ⟨none, .nck 84 (.t 83)⟩, ⟨none, .fa 85 4 (.t 84)⟩, ⟨none, .ld 86 false 1 (.t 85)⟩, ⟨none, .mv 87 (.t 9)⟩, ⟨none, .ia 88 1 (.t 86) (.t 87)⟩, ⟨none, .ld 89 false 1 (.t 88)⟩, ⟨none, .mv 90 (.t 1)⟩, ⟨none, .mv 91 (.t 11)⟩, ⟨none, .ia 92 1 (.t 90) (.t 91)⟩, ⟨none, .ld 93 false 1 (.t 92)⟩, ⟨none, .ia 94 1 (.t 89) (.t 93)⟩, ⟨none, .ld 95 false 1 (.t 94)⟩, ⟨none, .mv 96 (.t 1)⟩, ⟨none, .mv 97 (.t 13)⟩, ⟨none, .ia 98 1 (.t 96) (.t 97)⟩, ⟨none, .ld 99 false 1 (.t 98)⟩, ⟨none, .ia 100 1 (.t 95) (.t 99)⟩, ⟨none, .ld 101 false 1 (.t 100)⟩, ⟨none, .bs 102 1 (.sc (.bool false)) 1 [(0, (.t 101))]⟩, ⟨none, .app 103 1 1 (.t 82) (.t 102)⟩, ⟨none, .mv 12 (.t 103)⟩])) (.reg false [⟨none, .mv 80 (.t 13)⟩, ⟨none, .bin 81 .add (.t 80) (.c (.sc (.int .i64 1)))⟩, ⟨none, .mv 13 (.t 81)⟩]))))))))) (.reg false [⟨none, .mv 104 (.t 10)⟩, ⟨none, .mv 105 (.t 12)⟩, ⟨none, .bs 106 1 (.ls (some true) 1 []) 1 [(0, (.t 105))]⟩, ⟨none, .app 107 1 24 (.t 104) (.t 106)⟩, ⟨none, .mv 10 (.t 107)⟩])))))) (.reg false [⟨none, .mv 73 (.t 11)⟩, ⟨none, .bin 74 .add (.t 73) (.c (.sc (.int .i64 1)))⟩, ⟨none, .mv 11 (.t 74)⟩]))))))))) (.reg false [⟨none, .fa 108 4 (.t 5)⟩, ⟨none, .ld 109 false 1 (.t 108)⟩, ⟨none, .mv 110 (.t 10)⟩, ⟨none, .bs 111 1 (.ls (some true) 1 []) 1 [(0, (.t 110))]⟩, ⟨none, .app 112 1 24 (.t 109) (.t 111)⟩, ⟨none, .fa 113 4 (.t 5)⟩, ⟨none, .st 1 (.t 113) (.t 112)⟩])))))) (.reg false [⟨none, .mv 66 (.t 9)⟩, ⟨none, .bin 67 .add (.t 66) (.c (.sc (.int .i64 1)))⟩, ⟨none, .mv 9 (.t 67)⟩]))))))))) ((.seq (.reg false [⟨none, .ld 114 true 5 (.t 5)⟩, ⟨none, .st 5 (.t 4) (.t 114)⟩]) (.ret))))))))))
def K_l05Pick (P : Program) (fno : Nat) : Prop := ∀ (m : Mo) (s : SL Int) (hp : PickOk m s.2), AF P fno [.pt (eM m) 0, eS 1 eI s] (.own (eM (pickMo m s.2)))
theorem a_l05Pick {P : Program} (hm : P.follows .mixedOrders = true) {g : Nat} (hr : resF P g = some (115, k_l05Pick, [.c 4 5 true])) : K_l05Pick P g := by
 intro m s hp
 refine af_of_res hr hm rfl fun hb => ?_
 simp +contextual -implicitDefEqProofs only [k_l05Pick, eM, eS, eI, D.put, D.cells, D.size, D.sizeL, D.isAg, modeOf, noPtrs, List.length_map, D.at, D.sub, go_sem, eB, ↓reduceIte, Nat.reduceEqDiff, Nat.reduceAdd, Nat.reduceLeDiff, Nat.reduceMul, Nat.reduceBEq, Nat.reduceBneDiff, Nat.reduceLT, Nat.reduceSub, Int.ofNat_lt, Int.natCast_nonneg]
 refine vc_onU (α := Nat) [6, 7, 8, 21, 22, 23, 24, 25, 26, 27, 28, 29, 30, 31, 32, 33, 34, 35, 36, 37, 38, 39, 40, 41, 42, 43, 44, 45, 46, 47, 48, 49, 50, 51, 52, 53, 54, 55, 56, 57, 58] (fun i => [(6, .im none (.sc (.int .i64 i)))]) (fun i => [(5, .ar true (some false) 5 [.ag [.sc (.int .i64 m.1.1), .sc (.int .i64 m.1.2), .sc (.int .i64 s.2.length), .ls (nnL (m.2.2.1.2.take i)) 1 ((m.2.2.1.2.take i).map fun r => dRow r s.2), .ls (some true) 1 []]]), (4, .ar true (some false) 5 [.ag [.sc (.int .i64 0), .sc (.int .i64 0), .sc (.int .i64 0), .ls (some true) 1 [], .ls (some true) 1 []]])]) (fun i => i ≤ m.2.2.1.2.length) (fun i => m.2.2.1.2.length - i) 0 (Ent.to [] (by simp only [go_sem, ↓reduceIte, Nat.reduceEqDiff, Nat.reduceBEq, Nat.reduceBneDiff]; rfl) rfl (by simp [nnL]) (by rfl) (by simp only [subEnv, go_sem, ↓reduceIte, Nat.reduceEqDiff, Nat.reduceBEq, keep, memN, Bool.or_false, Bool.false_or, Bool.or_self] <;> simp)) (Nat.zero_le _) ?_
 intro i hi0
 by_cases hi : i < m.2.2.1.2.length
 ·have e1 := at_map (f := eS 1 eB) hi
  have hmem : m.2.2.1.2[i] ∈ m.2.2.1.2 := List.getElem_mem hi
  simp +contextual -implicitDefEqProofs only [hi, e1, eS, D.put, D.cells, D.size, D.sizeL, D.isAg, modeOf, noPtrs, List.length_map, go_sem, eI, eB, ↓reduceIte, Nat.reduceEqDiff, Nat.reduceAdd, Nat.reduceLeDiff, Nat.reduceMul, Nat.reduceBEq, Nat.reduceBneDiff, Nat.reduceLT, Nat.reduceSub, Int.ofNat_lt, Int.natCast_nonneg]
  refine vc_onU (α := Nat) [7, 8, 30, 31, 32, 33, 34, 35, 36, 37, 38, 39, 40, 41, 42, 43, 44, 45, 46, 47, 48, 49, 50, 51, 52] (fun j => [(8, .im none (.sc (.int .i64 j))), (7, .sm 30 0 j)]) (fun j => [(30, .ar true (some false) 1 ((s.2.take j).map fun x => .sc (.bool (m.2.2.1.2[i].2.getD x.toNat false)))), (5, .ar true (some false) 5 [.ag [.sc (.int .i64 m.1.1), .sc (.int .i64 m.1.2), .sc (.int .i64 s.2.length), .ls (nnL (m.2.2.1.2.take i)) 1 ((m.2.2.1.2.take i).map fun r => dRow r s.2), .ls (some true) 1 []]]), (4, .ar true (some false) 5 [.ag [.sc (.int .i64 0), .sc (.int .i64 0), .sc (.int .i64 0), .ls (some true) 1 [], .ls (some true) 1 []]])]) (fun j => j ≤ s.2.length) (fun j => s.2.length - j) 0 (Ent.to [] (by simp only [go_sem, ↓reduceIte, Nat.reduceEqDiff, Nat.reduceBEq, Nat.reduceBneDiff]; rfl) rfl (by simp) (by rfl) (by simp only [subEnv, go_sem, ↓reduceIte, Nat.reduceEqDiff, Nat.reduceBEq, keep, memN, Bool.or_false, Bool.false_or, Bool.or_self] <;> simp)) (Nat.zero_le _) ?_
  intro j hj0
  by_cases hj : j < s.2.length
  ·have e2 := at_mapD (f := eI) (d := 0) hj
   have hx0 := hp.nn _ (List.getElem_mem hj)
   have hx1 := hp.t _ hmem _ (List.getElem_mem hj)
   rw [← getD_at (d := (0 : Int)) hj] at hx0 hx1
   have hx2 := nat_lt_of hx0 hx1
   have e3 := at_mapD (f := eB) (d := false) hx1
   have hlen : (s.2.take j).length = j := by simp; omega
   simp +contextual -implicitDefEqProofs only [hj, e1, e2, e3, hi, hx0, hx2, hlen, eS, D.put, D.cells, D.size, D.sizeL, D.isAg, modeOf, noPtrs, List.length_map, go_sem, eI, eB, ↓reduceIte, Nat.reduceEqDiff, Nat.reduceAdd, Nat.reduceLeDiff, Nat.reduceMul, Nat.reduceBEq, Nat.reduceBneDiff, Nat.reduceLT, Nat.reduceSub, Int.ofNat_lt, Int.natCast_nonneg]
   have hsm := hp.small
   refine ⟨rfl, ⟨by (try simp); omega, by unfold maxEl; (try simp); omega, by simp [D.size]⟩, j + 1, by omega, by omega, ?_⟩
   rw [wrap_i64 (by omega) (by omega)]
   exact Ent.to [] (by simp only [go_sem, ↓reduceIte, Nat.reduceEqDiff, Nat.reduceBEq, Nat.reduceBneDiff]; rfl) rfl (by simp [map_take hj, getD_at hj, hj]) (by rfl) (by simp only [subEnv, go_sem, ↓reduceIte, Nat.reduceEqDiff, Nat.reduceBEq, keep, memN, Bool.or_false, Bool.false_or, Bool.or_self] <;> simp)
  ·obtain rfl : j = s.2.length := by omega
   simp +contextual -implicitDefEqProofs only [hj, List.take_length, go_sem, eI, eB, ↓reduceIte, Nat.reduceEqDiff, Nat.reduceAdd, Nat.reduceLeDiff, Nat.reduceMul, Nat.reduceBEq, Nat.reduceBneDiff, Nat.reduceLT, Nat.reduceSub, Int.ofNat_lt, List.length_map, Int.natCast_nonneg]
   have hsm := hp.st
   refine ⟨rfl, ⟨by (try simp); omega, by unfold maxEl; (try simp); omega, by simp [D.size]⟩, i + 1, by omega, by omega, ?_⟩
   rw [wrap_i64 (by omega) (by omega)]
   exact Ent.to [] (by simp only [go_sem, ↓reduceIte, Nat.reduceEqDiff, Nat.reduceBEq, Nat.reduceBneDiff]; rfl) rfl (by simp [nnL_take hi, map_take hi, dRow]) (by rfl) (by simp only [subEnv, go_sem, ↓reduceIte, Nat.reduceEqDiff, Nat.reduceBEq, keep, memN, Bool.or_false, Bool.false_or, Bool.or_self] <;> simp)
 ·rw [List.take_of_length_le (show m.2.2.1.2.length ≤ i by omega)]
  simp +contextual -implicitDefEqProofs only [hi, eS, go_sem, eI, eB, ↓reduceIte, Nat.reduceEqDiff, Nat.reduceAdd, Nat.reduceLeDiff, Nat.reduceMul, Nat.reduceBEq, Nat.reduceBneDiff, Nat.reduceLT, Nat.reduceSub, Int.ofNat_lt, List.length_map, Int.natCast_nonneg]
  refine vc_onU (α := Nat) [9, 10, 11, 12, 13, 59, 60, 61, 62, 63, 64, 65, 66, 67, 68, 69, 70, 71, 72, 73, 74, 75, 76, 77, 78, 79, 80, 81, 82, 83, 84, 85, 86, 87, 88, 89, 90, 91, 92, 93, 94, 95, 96, 97, 98, 99, 100, 101, 102, 103, 104, 105, 106, 107, 108, 109, 110, 111, 112, 113] (fun i => [(9, .im none (.sc (.int .i64 i)))]) (fun i => [(5, .ar true (some false) 5 [.ag [.sc (.int .i64 m.1.1), .sc (.int .i64 m.1.2), .sc (.int .i64 s.2.length), .ls (nnL (m.2.2.1.2)) 1 ((m.2.2.1.2).map fun r => dRow r s.2), .ls (nnL (m.2.2.2.2.take i)) 1 ((m.2.2.2.2.take i).map fun a => dTab a s.2 s.2)]]), (4, .ar true (some false) 5 [.ag [.sc (.int .i64 0), .sc (.int .i64 0), .sc (.int .i64 0), .ls (some true) 1 [], .ls (some true) 1 []]])]) (fun i => i ≤ m.2.2.2.2.length) (fun i => m.2.2.2.2.length - i) 0 (Ent.to [] (by simp only [go_sem, ↓reduceIte, Nat.reduceEqDiff, Nat.reduceBEq, Nat.reduceBneDiff]; rfl) rfl (by simp [nnL]) (by rfl) (by simp only [subEnv, go_sem, ↓reduceIte, Nat.reduceEqDiff, Nat.reduceBEq, keep, memN, Bool.or_false, Bool.false_or, Bool.or_self] <;> simp)) (Nat.zero_le _) ?_
  intro i hi0
  by_cases hi : i < m.2.2.2.2.length
  ·have e1 := at_map (f := eS 1 (eS 1 eB)) hi
   have hmem : m.2.2.2.2[i] ∈ m.2.2.2.2 := List.getElem_mem hi
   simp +contextual -implicitDefEqProofs only [hi, e1, eS, D.put, D.cells, D.size, D.sizeL, D.isAg, modeOf, noPtrs, List.length_map, go_sem, eI, eB, ↓reduceIte, Nat.reduceEqDiff, Nat.reduceAdd, Nat.reduceLeDiff, Nat.reduceMul, Nat.reduceBEq, Nat.reduceBneDiff, Nat.reduceLT, Nat.reduceSub, Int.ofNat_lt, Int.natCast_nonneg]
   refine vc_onU (α := Nat) [10, 11, 12, 13, 68, 69, 70, 71, 72, 73, 74, 75, 76, 77, 78, 79, 80, 81, 82, 83, 84, 85, 86, 87, 88, 89, 90, 91, 92, 93, 94, 95, 96, 97, 98, 99, 100, 101, 102, 103, 104, 105, 106, 107] (fun j => [(11, .im none (.sc (.int .i64 j))), (10, .sm 68 0 j)]) (fun j => [(68, .ar true (some false) 1 ((s.2.take j).map fun x => dRow (m.2.2.2.2[i].2.getD x.toNat (none, [])) s.2)), (5, .ar true (some false) 5 [.ag [.sc (.int .i64 m.1.1), .sc (.int .i64 m.1.2), .sc (.int .i64 s.2.length), .ls (nnL (m.2.2.1.2)) 1 ((m.2.2.1.2).map fun r => dRow r s.2), .ls (nnL (m.2.2.2.2.take i)) 1 ((m.2.2.2.2.take i).map fun a => dTab a s.2 s.2)]]), (4, .ar true (some false) 5 [.ag [.sc (.int .i64 0), .sc (.int .i64 0), .sc (.int .i64 0), .ls (some true) 1 [], .ls (some true) 1 []]])]) (fun j => j ≤ s.2.length) (fun j => s.2.length - j) 0 (Ent.to [] (by simp only [go_sem, ↓reduceIte, Nat.reduceEqDiff, Nat.reduceBEq, Nat.reduceBneDiff]; rfl) rfl (by simp) (by rfl) (by simp only [subEnv, go_sem, ↓reduceIte, Nat.reduceEqDiff, Nat.reduceBEq, keep, memN, Bool.or_false, Bool.false_or, Bool.or_self] <;> simp)) (Nat.zero_le _) ?_
   intro j hj0
   by_cases hj : j < s.2.length
   ·have e2 := at_mapD (f := eI) (d := 0) hj
    have hx0 := hp.nn _ (List.getElem_mem hj)
    have hx1 := hp.a _ hmem _ (List.getElem_mem hj)
    rw [← getD_at (d := (0 : Int)) hj] at hx0 hx1
    have hx2 := nat_lt_of hx0 hx1
    have e3 := at_mapD (f := eS 1 eB) (d := (none, [])) hx1
    have hlen : (s.2.take j).length = j := by simp; omega
    have hmem2 : m.2.2.2.2[i].2.getD (s.2.getD j 0).toNat (none, []) ∈ m.2.2.2.2[i].2 := by rw [getD_at hx1]; exact List.getElem_mem hx1
    simp +contextual -implicitDefEqProofs only [hj, e1, e2, e3, hi, hx0, hx2, hlen, eS, D.put, D.cells, D.size, D.sizeL, D.isAg, modeOf, noPtrs, List.length_map, go_sem, eI, eB, ↓reduceIte, Nat.reduceEqDiff, Nat.reduceAdd, Nat.reduceLeDiff, Nat.reduceMul, Nat.reduceBEq, Nat.reduceBneDiff, Nat.reduceLT, Nat.reduceSub, Int.ofNat_lt, Int.natCast_nonneg]
    refine vc_onU (α := Nat) [12, 13, 75, 76, 77, 78, 79, 80, 81, 82, 83, 84, 85, 86, 87, 88, 89, 90, 91, 92, 93, 94, 95, 96, 97, 98, 99, 100, 101, 102, 103] (fun k => [(13, .im none (.sc (.int .i64 k))), (12, .sm 75 0 k)]) (fun k => [(75, .ar true (some false) 1 ((s.2.take k).map fun x => .sc (.bool ((m.2.2.2.2[i].2.getD (s.2.getD j 0).toNat (none, [])).2.getD x.toNat false)))), (68, .ar true (some false) 1 ((s.2.take j).map fun x => dRow (m.2.2.2.2[i].2.getD x.toNat (none, [])) s.2)), (5, .ar true (some false) 5 [.ag [.sc (.int .i64 m.1.1), .sc (.int .i64 m.1.2), .sc (.int .i64 s.2.length), .ls (nnL (m.2.2.1.2)) 1 ((m.2.2.1.2).map fun r => dRow r s.2), .ls (nnL (m.2.2.2.2.take i)) 1 ((m.2.2.2.2.take i).map fun a => dTab a s.2 s.2)]]), (4, .ar true (some false) 5 [.ag [.sc (.int .i64 0), .sc (.int .i64 0), .sc (.int .i64 0), .ls (some true) 1 [], .ls (some true) 1 []]])]) (fun k => k ≤ s.2.length) (fun k => s.2.length - k) 0 (Ent.to [] (by simp only [go_sem, ↓reduceIte, Nat.reduceEqDiff, Nat.reduceBEq, Nat.reduceBneDiff]; rfl) rfl (by simp) (by rfl) (by simp only [subEnv, go_sem, ↓reduceIte, Nat.reduceEqDiff, Nat.reduceBEq, keep, memN, Bool.or_false, Bool.false_or, Bool.or_self] <;> simp)) (Nat.zero_le _) ?_
    intro k hk0
    by_cases hk : k < s.2.length
    ·have f2 := at_mapD (f := eI) (d := 0) hk
     have hy0 := hp.nn _ (List.getElem_mem hk)
     have hy1 := hp.b _ hmem _ hmem2 _ (List.getElem_mem hk)
     rw [← getD_at (d := (0 : Int)) hk] at hy0 hy1
     have hy2 := nat_lt_of hy0 hy1
     have f3 := at_mapD (f := eB) (d := false) hy1
     have hlen' : (s.2.take k).length = k := by simp; omega
     simp +contextual -implicitDefEqProofs only [hj, hk, e1, e2, e3, f2, f3, hi, hx0, hx2, hy0, hy2, hlen', eS, D.put, D.cells, D.size, D.sizeL, D.isAg, modeOf, noPtrs, List.length_map, go_sem, eI, eB, ↓reduceIte, Nat.reduceEqDiff, Nat.reduceAdd, Nat.reduceLeDiff, Nat.reduceMul, Nat.reduceBEq, Nat.reduceBneDiff, Nat.reduceLT, Nat.reduceSub, Int.ofNat_lt, Int.natCast_nonneg]
     have hsm := hp.small
     refine ⟨rfl, ⟨by (try simp); omega, by unfold maxEl; (try simp); omega, by simp [D.size]⟩, k + 1, by omega, by omega, ?_⟩
     rw [wrap_i64 (by omega) (by omega)]
     exact Ent.to [] (by simp only [go_sem, ↓reduceIte, Nat.reduceEqDiff, Nat.reduceBEq, Nat.reduceBneDiff]; rfl) rfl (by simp [map_take hk, getD_at hk, hk]) (by rfl) (by simp only [subEnv, go_sem, ↓reduceIte, Nat.reduceEqDiff, Nat.reduceBEq, keep, memN, Bool.or_false, Bool.false_or, Bool.or_self] <;> simp)
    ·obtain rfl : k = s.2.length := by omega
     simp +contextual -implicitDefEqProofs only [hk, List.take_length, hlen, go_sem, eI, eB, ↓reduceIte, Nat.reduceEqDiff, Nat.reduceAdd, Nat.reduceLeDiff, Nat.reduceMul, Nat.reduceBEq, Nat.reduceBneDiff, Nat.reduceLT, Nat.reduceSub, Int.ofNat_lt, List.length_map, Int.natCast_nonneg]
     have hsm := hp.small
     refine ⟨rfl, ⟨by (try simp); omega, by unfold maxEl; (try simp); omega, by simp [D.size]⟩, j + 1, by omega, by omega, ?_⟩
     rw [wrap_i64 (by omega) (by omega)]
     exact Ent.to [] (by simp only [go_sem, ↓reduceIte, Nat.reduceEqDiff, Nat.reduceBEq, Nat.reduceBneDiff]; rfl) rfl (by simp [map_take hj, getD_at hj, hj, dRow]) (by rfl) (by simp only [subEnv, go_sem, ↓reduceIte, Nat.reduceEqDiff, Nat.reduceBEq, keep, memN, Bool.or_false, Bool.false_or, Bool.or_self] <;> simp)
   ·obtain rfl : j = s.2.length := by omega
    simp +contextual -implicitDefEqProofs only [hj, List.take_length, go_sem, eI, eB, ↓reduceIte, Nat.reduceEqDiff, Nat.reduceAdd, Nat.reduceLeDiff, Nat.reduceMul, Nat.reduceBEq, Nat.reduceBneDiff, Nat.reduceLT, Nat.reduceSub, Int.ofNat_lt, List.length_map, Int.natCast_nonneg]
    have hsm := hp.sa
    refine ⟨rfl, ⟨by (try simp); omega, by unfold maxEl; (try simp); omega, by simp [D.size]⟩, i + 1, by omega, by omega, ?_⟩
    rw [wrap_i64 (by omega) (by omega)]
    exact Ent.to [] (by simp only [go_sem, ↓reduceIte, Nat.reduceEqDiff, Nat.reduceBEq, Nat.reduceBneDiff]; rfl) rfl (by simp [nnL_take hi, map_take hi, dTab]) (by rfl) (by simp only [subEnv, go_sem, ↓reduceIte, Nat.reduceEqDiff, Nat.reduceBEq, keep, memN, Bool.or_false, Bool.false_or, Bool.or_self] <;> simp)
  ·rw [List.take_of_length_le (show m.2.2.2.2.length ≤ i by omega)]
   simp +contextual -implicitDefEqProofs only [hi, eS, go_sem, eI, eB, ↓reduceIte, Nat.reduceEqDiff, Nat.reduceAdd, Nat.reduceLeDiff, Nat.reduceMul, Nat.reduceBEq, Nat.reduceBneDiff, Nat.reduceLT, Nat.reduceSub, Int.ofNat_lt, List.length_map, Int.natCast_nonneg]
   exact D.Le.of_eq (pick_eq (m := m) (l := s.2)).symm
theorem tab_map {α β : Type} {l : List α} {d : α} {f : α → β} : tabL l.length (fun i => f (l.getD i d)) = l.map f := by
 unfold tabL
 apply List.ext_getElem
 ·simp
 ·intro i h1 h2
  simp at h1
  simp [h1]
theorem aTab_tab {a : SL (SL Bool)} {l : List Int} : (some false, tabL l.length fun x => (some false, tabL l.length fun y => (a.2.getD (l.getD x 0).toNat (none, [])).2.getD (l.getD y 0).toNat false)) = aTab a l := by
 unfold aTab tRow
 refine Prod.ext rfl ?_
 refine (tab_map (f := fun (x : Int) => (some false, tabL l.length fun y => (a.2.getD x.toNat (none, [])).2.getD (l.getD y 0).toNat false))).trans ?_
 refine List.map_congr_left fun x _ => Prod.ext rfl ?_
 exact tab_map (f := fun (y : Int) => (a.2.getD x.toNat (none, [])).2.getD y.toNat false)

def k_chosen1 : RC := (.seq (.reg false [⟨none, .mv 6 (.c (.sc (.bool false)))⟩]) ((.seq (.reg true [⟨none, .ld 7 false 1 (.t 2)⟩, ⟨none, .ld 8 false 1 (.t 3)⟩, ⟨none, .mv 9 (.t 0)⟩, ⟨none, .ia 10 1 (.t 8) (.t 9)⟩, ⟨none, .ld 11 false 1 (.t 10)⟩, ⟨none, .ia 12 1 (.t 7) (.t 11)⟩, ⟨none, .ld 13 false 1 (.t 12)⟩, ⟨none, .ld 14 false 1 (.t 3)⟩, ⟨none, .mv 15 (.t 1)⟩, ⟨none, .ia 16 1 (.t 14) (.t 15)⟩, ⟨none, .ld 17 false 1 (.t 16)⟩, ⟨none, .ia 18 1 (.t 13) (.t 17)⟩, ⟨none, .ld 19 false 1 (.t 18)⟩, ⟨none, .mv 6 (.t 19)⟩]) (.ret))))
def K_chosen1 (P : Program) (fno : Nat) : Prop := ∀ (a : SL (SL Bool)) (s : SL Int) (x y : Nat) (hx : x < s.2.length) (hy : y < s.2.length) (hx0 : 0 ≤ s.2.getD x 0) (hx1 : (s.2.getD x 0).toNat < a.2.length) (hy0 : 0 ≤ s.2.getD y 0) (hy1 : (s.2.getD y 0).toNat < (a.2.getD (s.2.getD x 0).toNat (none, [])).2.length), AF P fno [eI x, eI y, .pt (eS 1 (eS 1 eB) a) 0, .pt (eS 1 eI s) 0] (.own (eB ((a.2.getD (s.2.getD x 0).toNat (none, [])).2.getD (s.2.getD y 0).toNat false)))
theorem a_chosen1 {P : Program} (hm : P.follows .mixedOrders = true) {g : Nat} (hr : resF P g = some (20, k_chosen1, [.t 6])) : K_chosen1 P g := by
 intro a s x y hx hy hx0 hx1 hy0 hy1
 refine af_of_res hr hm rfl fun hb => ?_
 have e1 := at_mapD (f := eI) (d := 0) hx
 have e2 := at_mapD (f := eI) (d := 0) hy
 have hx2 := nat_lt_of hx0 hx1
 have hy2 := nat_lt_of hy0 hy1
 have e3 := at_mapD (f := eS 1 eB) (d := (none, [])) hx1
 have e4 := at_mapD (f := eB) (d := false) hy1
 simp +contextual -implicitDefEqProofs only [k_chosen1, eS, e1, e2, e3, e4, hx, hy, hx0, hy0, hx2, hy2, D.size, D.sizeL, go_sem, eI, eB, ↓reduceIte, Nat.reduceEqDiff, Nat.reduceAdd, Nat.reduceLeDiff, Nat.reduceMul, Nat.reduceBEq, Nat.reduceBneDiff, Nat.reduceLT, Nat.reduceSub, Int.ofNat_lt, List.length_map, Int.natCast_nonneg]

def k_chosen (f1 f2 : Nat) : RC := (.seq (.reg false [⟨none, .box 2 5 (.t 0)⟩, ⟨none, .box 3 1 (.t 1)⟩, ⟨none, .zer 4 5 (.ag [(.sc (.int .i64 0)), (.sc (.int .i64 0)), (.sc (.int .i64 0)), (.ls (some true) 1 []), (.ls (some true) 1 [])])⟩]) ((.seq (.reg false [⟨none, .fa 13 0 (.t 2)⟩, ⟨none, .ld 14 true 2 (.t 13)⟩, ⟨none, .ld 15 false 1 (.t 3)⟩, ⟨none, .len 16 (.t 15)⟩, ⟨none, .bld 17 (.ag [(.sc (.int .i64 0)), (.sc (.int .i64 0)), (.sc (.int .i64 0)), (.ls (some true) 1 []), (.ls (some true) 1 [])]) [(0, 2, (.t 14)), (2, 1, (.t 16))]⟩, ⟨none, .zer 5 5 (.ag [(.sc (.int .i64 0)), (.sc (.int .i64 0)), (.sc (.int .i64 0)), (.ls (some true) 1 []), (.ls (some true) 1 [])])⟩, ⟨none, .st 5 (.t 5) (.t 17)⟩]) ((.seq ((.seq (.reg false [⟨none, .fa 18 3 (.t 2)⟩, ⟨none, .ld 19 false 1 (.t 18)⟩, ⟨none, .len 20 (.t 19)⟩, ⟨none, .mv 21 (.c (.sc (.int .i64 0)))⟩]) (.blk 0 (.loop ((.seq (.reg false [⟨none, .bin 22 .lss (.t 21) (.t 20)⟩]) ((.seq (.cond (.t 22) (.skip) (.exit 0)) ((.seq (.blk 1 ((.seq (.reg false [⟨none, .ia 23 1 (.t 19) (.t 21)⟩, ⟨none, .ld 24 false 1 (.t 23)⟩, ⟨none, .mv 7 (.t 24)⟩]) ((.seq (.reg false [⟨none, .bs 25 1 (.sc (.bool false)) 0 []⟩, ⟨none, .mv 8 (.t 25)⟩]) ((.seq ((.seq (.reg false [⟨none, .ld 26 false 1 (.t 3)⟩, ⟨none, .len 27 (.t 26)⟩, ⟨none, .mv 28 (.c (.sc (.int .i64 0)))⟩]) (.blk 2 (.loop ((.seq (.reg false [⟨none, .bin 29 .lss (.t 28) (.t 27)⟩]) ((.seq (.cond (.t 29) (.skip) (.exit 2)) ((.seq (.blk 3 ((.seq (.reg false [⟨none, .ia 30 1 (.t 26) (.t 28)⟩, ⟨none, .ld 31 false 1 (.t 30)⟩, ⟨none, .mv 10 (.t 31)⟩]) (.reg false [⟨none, .mv 32 (.t 8)⟩, ⟨none, .mv 33 (.t 7)⟩, ⟨none, .mv 34 (.t 10)⟩, ⟨none, .ia 35 1 (.t 33) (.t 34)⟩, ⟨none, .ld 36 false 1 (.t 35)⟩, ⟨none, .bs 37 1 (.sc (.bool false)) 1 [(0, (.t 36))]⟩, ⟨none, .app 38 1 1 (.t 32) (.t 37)⟩, ⟨none, .mv 8 (.t 38)⟩])))) (.reg false [⟨none, .bin 39 .add (.t 28) (.c (.sc (.int .i64 1)))⟩, ⟨none, .mv 28 (.t 39)⟩]))))))))))) (.reg false [⟨none, .fa 40 3 (.t 5)⟩, ⟨none, .ld 41 false 1 (.t 40)⟩, ⟨none, .mv 42 (.t 8)⟩, ⟨none, .bs 43 1 (.ls (some true) 1 []) 1 [(0, (.t 42))]⟩, ⟨none, .app 44 1 24 (.t 41) (.t 43)⟩, ⟨none, .fa 45 3 (.t 5)⟩, ⟨none, .st 1 (.t 45) (.t 44)⟩])))))))) (.reg false [⟨none, .bin 46 .add (.t 21) (.c (.sc (.int .i64 1)))⟩, ⟨none, .mv 21 (.t 46)⟩]))))))))))) ((.seq ((.seq (.reg false [⟨none, .fa 47 4 (.t 2)⟩, ⟨none, .ld 48 false 1 (.t 47)⟩, ⟨none, .len 49 (.t 48)⟩, ⟨none, .mv 50 (.c (.sc (.int .i64 0)))⟩]) (.blk 4 (.loop ((.seq (.reg false [⟨none, .bin 51 .lss (.t 50) (.t 49)⟩]) ((.seq (.cond (.t 51) (.skip) (.exit 4)) ((.seq (.blk 5 ((.seq (.reg false [⟨none, .ia 52 1 (.t 48) (.t 50)⟩, ⟨none, .ld 53 false 1 (.t 52)⟩, ⟨none, .zer 12 1 (.ls (some true) 1 [])⟩, ⟨none, .st 1 (.t 12) (.t 53)⟩]) (.reg true [⟨none, .fa 54 4 (.t 5)⟩, ⟨none, .ld 55 false 1 (.t 54)⟩, ⟨none, .fa 56 2 (.t 5)⟩, ⟨none, .ld 57 false 1 (.t 56)⟩, ⟨none, .mkf 58 f2 [(.t 12), (.t 3)]⟩, ⟨none, .call (some 59) f1 [(.t 57), (.t 58)]⟩, ⟨none, .bs 60 1 (.ls (some true) 1 []) 1 [(0, (.t 59))]⟩, ⟨none, .app 61 1 24 (.t 55) (.t 60)⟩, ⟨none, .fa 62 4 (.t 5)⟩, ⟨none, .st 1 (.t 62) (.t 61)⟩])))) (.reg false [⟨none, .bin 63 .add (.t 50) (.c (.sc (.int .i64 1)))⟩, ⟨none, .mv 50 (.t 63)⟩]))))))))))) ((.seq (.reg false [⟨none, .ld 64 true 5 (.t 5)⟩, ⟨none, .st 5 (.t 4) (.t 64)⟩]) (.ret))))))))))
def K_chosen (P : Program) (fno : Nat) : Prop := ∀ (m : Mo) (s : SL Int) (hp : PickOk m s.2), AF P fno [eM m, eS 1 eI s] (.own (eM (pickMo m s.2)))
theorem a_chosen {P : Program} (hm : P.follows .mixedOrders = true) {g f1 f2 : Nat} (hr : resF P g = some (65, k_chosen f1 f2, [.c 4 5 true])) (hc1 : K_tableB P f1) (hc2 : K_chosen1 P f2) : K_chosen P g := by
 intro m s hp
 refine af_of_res hr hm rfl fun hb => ?_
 simp +contextual -implicitDefEqProofs only [k_chosen, eM, eS, eI, D.put, D.cells, D.size, D.sizeL, D.isAg, modeOf, noPtrs, List.length_map, D.at, D.sub, go_sem, eB, ↓reduceIte, Nat.reduceEqDiff, Nat.reduceAdd, Nat.reduceLeDiff, Nat.reduceMul, Nat.reduceBEq, Nat.reduceBneDiff, Nat.reduceLT, Nat.reduceSub, Int.ofNat_lt, Int.natCast_nonneg]
 refine vc_onU (α := Nat) [7, 8, 10, 21, 22, 23, 24, 25, 26, 27, 28, 29, 30, 31, 32, 33, 34, 35, 36, 37, 38, 39, 40, 41, 42, 43, 44, 45, 46] (fun i => [(21, .im none (.sc (.int .i64 i)))]) (fun i => [(5, .ar true (some false) 5 [.ag [.sc (.int .i64 m.1.1), .sc (.int .i64 m.1.2), .sc (.int .i64 s.2.length), .ls (nnL (m.2.2.1.2.take i)) 1 ((m.2.2.1.2.take i).map fun r => dRow r s.2), .ls (some true) 1 []]]), (4, .ar true (some false) 5 [.ag [.sc (.int .i64 0), .sc (.int .i64 0), .sc (.int .i64 0), .ls (some true) 1 [], .ls (some true) 1 []]]), (3, .ar false (some false) 1 [.ls s.1 1 (s.2.map eI)]), (2, .ar false (some false) 5 [.ag [.sc (.int .i64 m.1.1), .sc (.int .i64 m.1.2), .sc (.int .i64 m.2.1), .ls m.2.2.1.1 1 (m.2.2.1.2.map (eS 1 eB)), .ls m.2.2.2.1 1 (m.2.2.2.2.map (eS 1 (eS 1 eB)))]])]) (fun i => i ≤ m.2.2.1.2.length) (fun i => m.2.2.1.2.length - i) 0 (Ent.to [] (by simp only [go_sem, ↓reduceIte, Nat.reduceEqDiff, Nat.reduceBEq, Nat.reduceBneDiff]; rfl) rfl (by simp [nnL]) (by rfl) (by simp only [subEnv, go_sem, ↓reduceIte, Nat.reduceEqDiff, Nat.reduceBEq, keep, memN, Bool.or_false, Bool.false_or, Bool.or_self] <;> simp)) (Nat.zero_le _) ?_
 intro i hi0
 by_cases hi : i < m.2.2.1.2.length
 ·have e1 := at_map (f := eS 1 eB) hi
  have hmem : m.2.2.1.2[i] ∈ m.2.2.1.2 := List.getElem_mem hi
  simp +contextual -implicitDefEqProofs only [hi, e1, eS, D.put, D.cells, D.size, D.sizeL, D.isAg, modeOf, noPtrs, List.length_map, go_sem, eI, eB, ↓reduceIte, Nat.reduceEqDiff, Nat.reduceAdd, Nat.reduceLeDiff, Nat.reduceMul, Nat.reduceBEq, Nat.reduceBneDiff, Nat.reduceLT, Nat.reduceSub, Int.ofNat_lt, Int.natCast_nonneg]
  refine vc_onU (α := Nat) [8, 10, 25, 28, 29, 30, 31, 32, 33, 34, 35, 36, 37, 38, 39] (fun j => [(28, .im none (.sc (.int .i64 j))), (8, .sm 25 0 j)]) (fun j => [(25, .ar true (some false) 1 ((s.2.take j).map fun x => .sc (.bool (m.2.2.1.2[i].2.getD x.toNat false)))), (5, .ar true (some false) 5 [.ag [.sc (.int .i64 m.1.1), .sc (.int .i64 m.1.2), .sc (.int .i64 s.2.length), .ls (nnL (m.2.2.1.2.take i)) 1 ((m.2.2.1.2.take i).map fun r => dRow r s.2), .ls (some true) 1 []]]), (4, .ar true (some false) 5 [.ag [.sc (.int .i64 0), .sc (.int .i64 0), .sc (.int .i64 0), .ls (some true) 1 [], .ls (some true) 1 []]]), (3, .ar false (some false) 1 [.ls s.1 1 (s.2.map eI)]), (2, .ar false (some false) 5 [.ag [.sc (.int .i64 m.1.1), .sc (.int .i64 m.1.2), .sc (.int .i64 m.2.1), .ls m.2.2.1.1 1 (m.2.2.1.2.map (eS 1 eB)), .ls m.2.2.2.1 1 (m.2.2.2.2.map (eS 1 (eS 1 eB)))]])]) (fun j => j ≤ s.2.length) (fun j => s.2.length - j) 0 (Ent.to [] (by simp only [go_sem, ↓reduceIte, Nat.reduceEqDiff, Nat.reduceBEq, Nat.reduceBneDiff]; rfl) rfl (by simp) (by rfl) (by simp only [subEnv, go_sem, ↓reduceIte, Nat.reduceEqDiff, Nat.reduceBEq, keep, memN, Bool.or_false, Bool.false_or, Bool.or_self] <;> simp)) (Nat.zero_le _) ?_
  intro j hj0
  by_cases hj : j < s.2.length
  ·have e2 := at_mapD (f := eI) (d := 0) hj
   have hx0 := hp.nn _ (List.getElem_mem hj)
   have hx1 := hp.t _ hmem _ (List.getElem_mem hj)
   rw [← getD_at (d := (0 : Int)) hj] at hx0 hx1
   have hx2 := nat_lt_of hx0 hx1
   have e3 := at_mapD (f := eB) (d := false) hx1
   have hlen : (s.2.take j).length = j := by simp; omega
   simp +contextual -implicitDefEqProofs only [hj, e1, e2, e3, hi, hx0, hx2, hlen, eS, D.put, D.cells, D.size, D.sizeL, D.isAg, modeOf, noPtrs, List.length_map, go_sem, eI, eB, ↓reduceIte, Nat.reduceEqDiff, Nat.reduceAdd, Nat.reduceLeDiff, Nat.reduceMul, Nat.reduceBEq, Nat.reduceBneDiff, Nat.reduceLT, Nat.reduceSub, Int.ofNat_lt, Int.natCast_nonneg]
   have hsm := hp.small
   refine ⟨rfl, ⟨by (try simp); omega, by unfold maxEl; (try simp); omega, by simp [D.size]⟩, j + 1, by omega, by omega, ?_⟩
   rw [wrap_i64 (by omega) (by omega)]
   exact Ent.to [] (by simp only [go_sem, ↓reduceIte, Nat.reduceEqDiff, Nat.reduceBEq, Nat.reduceBneDiff]; rfl) rfl (by simp [map_take hj, getD_at hj, hj]) (by rfl) (by simp only [subEnv, go_sem, ↓reduceIte, Nat.reduceEqDiff, Nat.reduceBEq, keep, memN, Bool.or_false, Bool.false_or, Bool.or_self] <;> simp)
  ·obtain rfl : j = s.2.length := by omega
   simp +contextual -implicitDefEqProofs only [hj, List.take_length, go_sem, eI, eB, ↓reduceIte, Nat.reduceEqDiff, Nat.reduceAdd, Nat.reduceLeDiff, Nat.reduceMul, Nat.reduceBEq, Nat.reduceBneDiff, Nat.reduceLT, Nat.reduceSub, Int.ofNat_lt, List.length_map, Int.natCast_nonneg]
   have hsm := hp.st
   refine ⟨rfl, ⟨by (try simp); omega, by unfold maxEl; (try simp); omega, by simp [D.size]⟩, i + 1, by omega, by omega, ?_⟩
   rw [wrap_i64 (by omega) (by omega)]
   exact Ent.to [] (by simp only [go_sem, ↓reduceIte, Nat.reduceEqDiff, Nat.reduceBEq, Nat.reduceBneDiff]; rfl) rfl (by simp [nnL_take hi, map_take hi, dRow]) (by rfl) (by simp only [subEnv, go_sem, ↓reduceIte, Nat.reduceEqDiff, Nat.reduceBEq, keep, memN, Bool.or_false, Bool.false_or, Bool.or_self] <;> simp)
 ·rw [List.take_of_length_le (show m.2.2.1.2.length ≤ i by omega)]
  simp +contextual -implicitDefEqProofs only [hi, eS, D.at, D.sub, D.put, D.cells, D.size, D.sizeL, D.isAg, modeOf, noPtrs, List.length_map, go_sem, eI, eB, ↓reduceIte, Nat.reduceEqDiff, Nat.reduceAdd, Nat.reduceLeDiff, Nat.reduceMul, Nat.reduceBEq, Nat.reduceBneDiff, Nat.reduceLT, Nat.reduceSub, Int.ofNat_lt, Int.natCast_nonneg]
  refine vc_onU (α := Nat) [12, 50, 51, 52, 53, 54, 55, 56, 57, 59, 60, 61, 62, 63] (fun i => [(50, .im none (.sc (.int .i64 i)))]) (fun i => [(5, .ar true (some false) 5 [.ag [.sc (.int .i64 m.1.1), .sc (.int .i64 m.1.2), .sc (.int .i64 s.2.length), .ls (nnL (m.2.2.1.2)) 1 ((m.2.2.1.2).map fun r => dRow r s.2), .ls (nnL (m.2.2.2.2.take i)) 1 ((m.2.2.2.2.take i).map fun a => dTab a s.2 s.2)]]), (4, .ar true (some false) 5 [.ag [.sc (.int .i64 0), .sc (.int .i64 0), .sc (.int .i64 0), .ls (some true) 1 [], .ls (some true) 1 []]]), (3, .ar false (some false) 1 [.ls s.1 1 (s.2.map eI)]), (2, .ar false (some false) 5 [.ag [.sc (.int .i64 m.1.1), .sc (.int .i64 m.1.2), .sc (.int .i64 m.2.1), .ls m.2.2.1.1 1 (m.2.2.1.2.map (eS 1 eB)), .ls m.2.2.2.1 1 (m.2.2.2.2.map (eS 1 (eS 1 eB)))]])]) (fun i => i ≤ m.2.2.2.2.length) (fun i => m.2.2.2.2.length - i) 0 (Ent.to [] (by simp only [go_sem, ↓reduceIte, Nat.reduceEqDiff, Nat.reduceBEq, Nat.reduceBneDiff]; rfl) rfl (by simp [nnL]) (by rfl) (by simp only [subEnv, go_sem, ↓reduceIte, Nat.reduceEqDiff, Nat.reduceBEq, keep, memN, Bool.or_false, Bool.false_or, Bool.or_self] <;> simp)) (Nat.zero_le _) ?_
  intro i hi0
  by_cases hi : i < m.2.2.2.2.length
  ·have e1 := at_map (f := eS 1 (eS 1 eB)) hi
   have hmem : m.2.2.2.2[i] ∈ m.2.2.2.2 := List.getElem_mem hi
   have hf : ∀ x y : Nat, x < s.2.length → y < s.2.length → AF P f2 (eI x :: eI y :: [.pt (eS 1 (eS 1 eB) m.2.2.2.2[i]) 0, .pt (eS 1 eI s) 0]) (.own (eB ((m.2.2.2.2[i].2.getD (s.2.getD x 0).toNat (none, [])).2.getD (s.2.getD y 0).toNat false))) := fun x y hx hy => by
    have gx := hp.nn _ (List.getElem_mem hx)
    have gx1 := hp.a _ hmem _ (List.getElem_mem hx)
    have gy := hp.nn _ (List.getElem_mem hy)
    rw [← getD_at (d := (0 : Int)) hx] at gx gx1
    have hmem2 : m.2.2.2.2[i].2.getD (s.2.getD x 0).toNat (none, []) ∈ m.2.2.2.2[i].2 := by rw [getD_at gx1]; exact List.getElem_mem gx1
    have gy1 := hp.b _ hmem _ hmem2 _ (List.getElem_mem hy)
    rw [← getD_at (d := (0 : Int)) hy] at gy gy1
    exact hc2 m.2.2.2.2[i] s x y hx hy gx gx1 gy gy1
   simp +contextual -implicitDefEqProofs only [hi, e1, eS, D.put, D.cells, D.size, D.sizeL, D.isAg, modeOf, noPtrs, List.length_map, go_sem, eI, eB, ↓reduceIte, Nat.reduceEqDiff, Nat.reduceAdd, Nat.reduceLeDiff, Nat.reduceMul, Nat.reduceBEq, Nat.reduceBneDiff, Nat.reduceLT, Nat.reduceSub, Int.ofNat_lt, Int.natCast_nonneg]
   refine callQ_self (ds := [eI s.2.length, .fn f2 [.pt (eS 1 (eS 1 eB) m.2.2.2.2[i]) 0, .pt (eS 1 eI s) 0]]) (by rfl) (hc1 s.2.length f2 _ (fun x y => (m.2.2.2.2[i].2.getD (s.2.getD x 0).toNat (none, [])).2.getD (s.2.getD y 0).toNat false) hp.small hf) ?_
   rw [aTab_tab, dTab_eq]
   simp +contextual -implicitDefEqProofs only [dTab, D.put, D.cells, D.size, D.sizeL, D.isAg, modeOf, noPtrs, List.length_map, go_sem, eI, eB, ↓reduceIte, Nat.reduceEqDiff, Nat.reduceAdd, Nat.reduceLeDiff, Nat.reduceMul, Nat.reduceBEq, Nat.reduceBneDiff, Nat.reduceLT, Nat.reduceSub, Int.ofNat_lt, Int.natCast_nonneg]
   have hsm := hp.sa
   refine ⟨rfl, ⟨by (try simp); omega, by unfold maxEl; (try simp); omega, by simp [D.size]⟩, i + 1, by omega, by omega, ?_⟩
   rw [wrap_i64 (by omega) (by omega)]
   exact Ent.to [12] (by simp only [go_sem, ↓reduceIte, Nat.reduceEqDiff, Nat.reduceBEq, Nat.reduceBneDiff]; rfl) rfl (by simp [nnL_take hi, map_take hi, dTab]) (by rfl) (by simp only [subEnv, go_sem, ↓reduceIte, Nat.reduceEqDiff, Nat.reduceBEq, keep, memN, Bool.or_false, Bool.false_or, Bool.or_self] <;> simp)
  ·rw [List.take_of_length_le (show m.2.2.2.2.length ≤ i by omega)]
   simp +contextual -implicitDefEqProofs only [hi, eS, D.at, D.sub, D.put, D.cells, D.size, D.sizeL, D.isAg, modeOf, noPtrs, List.length_map, go_sem, eI, eB, ↓reduceIte, Nat.reduceEqDiff, Nat.reduceAdd, Nat.reduceLeDiff, Nat.reduceMul, Nat.reduceBEq, Nat.reduceBneDiff, Nat.reduceLT, Nat.reduceSub, Int.ofNat_lt, Int.natCast_nonneg]
   exact D.Le.of_eq (pick_eq (m := m) (l := s.2)).symm
def zMo : Mo := ((0, 0), 0, (some true, []), (some true, []))

theorem zMo_eq : eM zMo = .ag [.sc (.int .i64 0), .sc (.int .i64 0), .sc (.int .i64 0), .ls (some true) 1 [], .ls (some true) 1 []] := rfl
theorem isIn_iff {x lo hi : Int} : isIn x lo hi = true ↔ lo ≤ x ∧ x ≤ hi := by simp [isIn]
theorem asc_ge {l : List Int} (h0 : 0 ≤ l.getD 0 0) : ∀ n, ascI l n = true → (n : Int) ≤ l.getD n 0
 | 0, _ => h0
 | n + 1, h => by
  rw [ascI_succ, Bool.and_eq_true, decide_eq_true_eq] at h
  have := asc_ge h0 n h.1
  omega
theorem set_len {p : Int} {l : List Int} (hp : 1 ≤ p) (h : isSetB p l = true) : (l.length : Int) ≤ p := by
 simp only [isSetB, allIn, Bool.and_eq_true, List.all_eq_true] at h
 by_cases h0 : l = []
 ·subst h0; simp; omega
 ·have hl : 0 < l.length := List.length_pos_iff.2 h0
  have a0 := isIn_iff.1 (h.2 _ (List.getElem_mem hl))
  have a1 := isIn_iff.1 (h.2 _ (List.getElem_mem (show l.length - 1 < l.length by omega)))
  have := asc_ge (l := l) (by rw [getD_at hl]; omega) _ h.1
  rw [getD_at (by omega)] at this
  omega
theorem pick_ok {m : Mo} {l : List Int} (h : okMo m = true) (hs : isSetB m.2.1 l = true) : PickOk m l := by
 have hp := okMo_pts h
 have hl := set_len hp.1 hs
 simp only [isSetB, allIn, Bool.and_eq_true, List.all_eq_true] at hs
 simp only [okMo, testsOk, actsOk, okG, tabOk, Bool.and_eq_true, List.all_eq_true, isIn_iff, lenIs, beq_iff_eq] at h
 obtain ⟨⟨hg, _, ht, htr⟩, ha, har⟩ := h
 have hx : ∀ x ∈ l, 0 ≤ x ∧ x.toNat < m.2.1 := fun x hx => by
  have := isIn_iff.1 (hs.2 x hx)
  omega
 refine ⟨by omega, by omega, by omega, fun x h => (hx x h).1, fun r hr x h => ?_, fun a ha x h => ?_, fun a ha r hr x h => ?_⟩
 ·have := htr r hr; have := hx x h; omega
 ·have := (har a ha).1; have := hx x h; omega
 ·have := (har a ha).2 r hr; have := hx x h; omega

end Go.Ax
