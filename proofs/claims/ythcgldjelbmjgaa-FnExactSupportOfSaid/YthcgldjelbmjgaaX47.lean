/- Contracts of functions of the seat, proved over the engine. No condition. -/
import Derived.Test.YthcgldjelbmjgaaX42
import Derived.Test.YthcgldjelbmjgaaX7
set_option linter.unusedSimpArgs false
set_option linter.unusedVariables false
set_option linter.unnecessarySimpa false
namespace Go.Ax
set_option linter.unusedSimpArgs false
set_option maxRecDepth 20000
set_option maxHeartbeats 4000000
def iOf (a : SL (SL Int)) (x y : Nat) : Int := (a.2.getD x (none, [])).2.getD y 0
structure SqI (n : Nat) (a : SL (SL Int)) : Prop where
  len : a.2.length = n
  row : ∀ r ∈ a.2, r.2.length = n
theorem SqI.rows {n x : Nat} {a : SL (SL Int)} (h : SqI n a) (hx : x < n) : (a.2.getD x (none, [])).2.length = n := h.row _ (getD_mem (by rw [h.len]; exact hx))
theorem SqI.at {n x : Nat} {a : SL (SL Int)} (h : SqI n a) (hx : x < n) : D.at (a.2.map (eS 1 eI)) x = .ls (a.2.getD x (none, [])).1 1 ((a.2.getD x (none, [])).2.map eI) := at_mapD (by rw [h.len]; exact hx)
theorem SqI.at2 {n x y : Nat} {a : SL (SL Int)} (h : SqI n a) (hx : x < n) (hy : y < n) : D.at ((a.2.getD x (none, [])).2.map eI) y = .sc (.int .i64 (iOf a x y)) := at_mapD (by rw [h.rows hx]; exact hy)
structure CoOk (c : Co) (n : Nat) : Prop where
  pts : c.2.1 = (n : Int)
  n1 : 1 ≤ n
  n8 : n ≤ 8
  tl : c.2.2.1.2.length ≤ 1000
  tr : ∀ r ∈ c.2.2.1.2, r.2.length = n
  al : c.2.2.2.2.length ≤ 1000
  asq : ∀ a ∈ c.2.2.2.2, SqI n a
theorem okCo_ok {c : Co} (h : okCo c = true) : ∃ n, CoOk c n := by
  simp only [okCo, testsOk, cTab, cRow, tabOk, okG, Bool.and_eq_true, List.all_eq_true, lenIs, beq_iff_eq, isIn_iff'] at h
  obtain ⟨⟨hg, hp, ht, htr⟩, ha, har⟩ := h
  exact ⟨c.2.1.toNat, by omega, by omega, by omega, by omega, fun r hr => by have := htr r hr; omega, by omega, fun a hx => ⟨by have := (har a hx).1; omega, fun r hr => by have := ((har a hx).2 r hr).1; omega⟩⟩
def supR (a : SL (SL Int)) : Rel := fun x y => iOf a x y != -1
def sRow (r : SL Bool) : D := .ls (some false) 1 (r.2.map eB)
def sTab (n : Nat) (a : SL (SL Int)) : D := .ls (some false) 1 (rD n (supR a))

def suppMo (c : Co) (n : Nat) : Mo := (c.1, n, (nnL c.2.2.1.2, c.2.2.1.2.map fun r => (some false, r.2)), (nnL c.2.2.2.2, c.2.2.2.2.map fun a => rTab n (supR a)))
def zeroMo : Mo := ((0, 0), 0, (some true, []), (some true, []))
def suppR (c : Co) : Mo × Int := if okCo c = true then (suppMo c c.2.1.toNat, 0) else (zeroMo, 1)
theorem supp_eq {c : Co} {n : Nat} : eM (suppMo c n) = .ag [.sc (.int .i64 c.1.1), .sc (.int .i64 c.1.2), .sc (.int .i64 n), .ls (nnL c.2.2.1.2) 1 (c.2.2.1.2.map sRow), .ls (nnL c.2.2.2.2) 1 (c.2.2.2.2.map (sTab n))] := by
  simp only [eM, suppMo, eI, eG]
  unfold sTab
  simp only [eS, sRow, List.map_map, Function.comp_def, rTab, rD, rRow, tabL_map, eB]
  rfl
theorem np_B : ∀ {l : List Bool}, noPtrs (l.map eB) = true
  | [] => rfl
  | b :: l => by simp only [List.map_cons, noPtrs, np_B (l := l), eB, D.noPtr, Bool.and_self]
theorem sz_Bc {b : Bool} {l : List Bool} : ∀ e ∈ D.sc (.bool b) :: l.map eB, e.size = 1 := by
  intro e he
  rcases List.mem_cons.1 he with rfl | he
  · rfl
  · obtain ⟨x, _, rfl⟩ := List.mem_map.1 he; rfl
def k_clone : RC := (.seq (.reg false [⟨none, .mv 2 (.c (.ls (some true) 1 []))⟩]) ((.seq ((.seq (.reg false [⟨none, .mv 3 (.t 0)⟩, ⟨none, .snil 4 false (.t 3) (.c (.ls (some true) 1 []))⟩]) (.cond (.t 4) ((.seq (.reg false [⟨none, .mv 2 (.c (.ls (some true) 1 []))⟩]) (.ret))) (.skip)))) ((.seq (.reg false [⟨none, .bs 5 1 (.sc (.bool false)) 0 []⟩, ⟨none, .mv 6 (.t 0)⟩, ⟨none, .app 7 1 1 (.t 5) (.t 6)⟩, ⟨none, .mv 2 (.t 7)⟩]) (.ret))))))
def K_clone (P : Program) (fno : Nat) : Prop := ∀ (r : SL Bool) (h : r.1 = some false) (hl : r.2.length ≤ 1000), AF P fno [eS 1 eB r] (.own (.ls (some false) 1 (r.2.map eB)))
theorem a_clone {P : Program} (hm : P.follows .mixedOrders = true) {g : Nat} (hr : resF P g = some (8, k_clone, [.t 2])) : K_clone P g := by
  intro r h hl
  obtain ⟨nn, l⟩ := r
  obtain rfl : nn = some false := h
  refine af_of_res hr hm rfl fun hb => ?_
  cases l with
  | nil =>
    simp +contextual -implicitDefEqProofs only [k_clone, List.map_nil, List.length_nil, eCo, eM, eS, eI, eB, D.size, D.sizeL, D.sub, Int.cast_ofNat_Int, Int.reduceLT, Int.reduceLE, Int.le_refl, Int.reduceBEq, Int.reduceEq, beq_self_eq_true, Int.reduceToNat, D.isAg, bne, Bool.not_true, Bool.not_false, Bool.true_and, Bool.false_and, Bool.and_true, Bool.and_false, Bool.true_or, Bool.false_or, Bool.or_true, Bool.or_false, D.put, D.cells, modeOf, noPtrs, List.length_map, go_sem, ↓reduceIte, Nat.reduceEqDiff, Nat.reduceAdd, Nat.reduceLeDiff, Nat.reduceMul, Nat.reduceBEq, Nat.reduceBneDiff, Nat.reduceLT, Nat.reduceSub, Bool.false_eq_true, List.cons_append, List.nil_append, Int.ofNat_lt, Int.natCast_nonneg]
    exact ⟨by unfold maxEl; omega, by simp⟩
  | cons b l =>
    simp +contextual -implicitDefEqProofs only [k_clone, np_B, List.map_cons, List.length_cons, eCo, eM, eS, eI, eB, D.size, D.sizeL, D.sub, Int.cast_ofNat_Int, Int.reduceLT, Int.reduceLE, Int.le_refl, Int.reduceBEq, Int.reduceEq, beq_self_eq_true, Int.reduceToNat, D.isAg, bne, Bool.not_true, Bool.not_false, Bool.true_and, Bool.false_and, Bool.and_true, Bool.and_false, Bool.true_or, Bool.false_or, Bool.or_true, Bool.or_false, D.put, D.cells, modeOf, noPtrs, List.length_map, go_sem, ↓reduceIte, Nat.reduceEqDiff, Nat.reduceAdd, Nat.reduceLeDiff, Nat.reduceMul, Nat.reduceBEq, Nat.reduceBneDiff, Nat.reduceLT, Nat.reduceSub, Bool.false_eq_true, List.cons_append, List.nil_append, Int.ofNat_lt, Int.natCast_nonneg]
    simp only [List.length_cons] at hl
    exact ⟨by omega, by unfold maxEl; omega, sz_Bc⟩

def k_support1 : RC := (.seq (.reg false [⟨none, .mv 5 (.c (.sc (.bool false)))⟩]) ((.seq (.reg false [⟨none, .ld 6 false 1 (.t 2)⟩, ⟨none, .mv 7 (.t 0)⟩, ⟨none, .ia 8 1 (.t 6) (.t 7)⟩, ⟨none, .ld 9 false 1 (.t 8)⟩, ⟨none, .mv 10 (.t 1)⟩, ⟨none, .ia 11 1 (.t 9) (.t 10)⟩, ⟨none, .ld 12 false 1 (.t 11)⟩, ⟨none, .bin 13 .neq (.t 12) (.c (.sc (.int .i64 (-1))))⟩, ⟨none, .mv 5 (.t 13)⟩]) (.ret))))
def K_support1 (P : Program) (fno : Nat) : Prop := ∀ (n : Nat) (a : SL (SL Int)) (x y : Nat) (sq : SqI n a) (hx : x < n) (hy : y < n), AF P fno [eI x, eI y, .pt (eS 1 (eS 1 eI) a) 0] (.own (eB (supR a x y)))
theorem a_support1 {P : Program} (hm : P.follows .mixedOrders = true) {g : Nat} (hr : resF P g = some (14, k_support1, [.t 5])) : K_support1 P g := by
  intro n a x y sq hx hy
  have b1 := sq.at hx
  have b2 := sq.at2 hx hy
  have b3 := sq.rows hx
  have b4 := sq.len
  refine af_of_res hr hm rfl fun hb => ?_
  simp +contextual -implicitDefEqProofs only [k_support1, b1, b2, b3, b4, hx, hy, eCo, eM, eS, eI, eB, D.size, D.sizeL, D.sub, Int.cast_ofNat_Int, Int.reduceLT, Int.reduceLE, Int.le_refl, Int.reduceBEq, Int.reduceEq, beq_self_eq_true, Int.reduceToNat, D.isAg, bne, Bool.not_true, Bool.not_false, Bool.true_and, Bool.false_and, Bool.and_true, Bool.and_false, Bool.true_or, Bool.false_or, Bool.or_true, Bool.or_false, go_sem, ↓reduceIte, Nat.reduceEqDiff, Nat.reduceAdd, Nat.reduceLeDiff, Nat.reduceMul, Nat.reduceBEq, Nat.reduceBneDiff, Nat.reduceLT, Nat.reduceSub, Bool.false_eq_true, List.cons_append, List.nil_append, Int.ofNat_lt, List.length_map, Int.natCast_nonneg]
  exact D.Le.refl _

def k_spSupportOf (f1 f2 : Nat) : RC := (.seq (.reg false [⟨none, .box 1 5 (.t 0)⟩, ⟨none, .zer 2 5 (.ag [(.sc (.int .i64 0)), (.sc (.int .i64 0)), (.sc (.int .i64 0)), (.ls (some true) 1 []), (.ls (some true) 1 [])])⟩, ⟨none, .mv 3 (.c (.sc (.int .i64 0)))⟩]) ((.seq ((.seq (.reg false [⟨none, .call (some 10) f1 [(.t 1)]⟩, ⟨none, .un 11 .not (.t 10)⟩]) (.cond (.t 11) ((.seq (.reg false [⟨none, .bld 12 (.ag [(.sc (.int .i64 0)), (.sc (.int .i64 0)), (.sc (.int .i64 0)), (.ls (some true) 1 []), (.ls (some true) 1 [])]) []⟩, ⟨none, .st 5 (.t 2) (.t 12)⟩, ⟨none, .mv 3 (.c (.sc (.int .i64 1)))⟩]) (.ret))) (.skip)))) ((.seq (.reg false [⟨none, .fa 13 0 (.t 1)⟩, ⟨none, .ld 14 true 2 (.t 13)⟩, ⟨none, .fa 15 2 (.t 1)⟩, ⟨none, .ld 16 false 1 (.t 15)⟩, ⟨none, .bld 17 (.ag [(.sc (.int .i64 0)), (.sc (.int .i64 0)), (.sc (.int .i64 0)), (.ls (some true) 1 []), (.ls (some true) 1 [])]) [(0, 2, (.t 14)), (2, 1, (.t 16))]⟩, ⟨none, .zer 4 5 (.ag [(.sc (.int .i64 0)), (.sc (.int .i64 0)), (.sc (.int .i64 0)), (.ls (some true) 1 []), (.ls (some true) 1 [])])⟩, ⟨none, .st 5 (.t 4) (.t 17)⟩]) ((.seq ((.seq (.reg false [⟨none, .mv 5 (.c (.sc (.int .i64 0)))⟩]) (.blk 0 (.loop ((.seq ((.seq (.reg false [⟨none, .mv 18 (.t 5)⟩, ⟨none, .fa 19 3 (.t 1)⟩, ⟨none, .ld 20 false 1 (.t 19)⟩, ⟨none, .len 21 (.t 20)⟩, ⟨none, .bin 22 .lss (.t 18) (.t 21)⟩]) (.cond (.t 22) (.skip) (.exit 0)))) ((.seq (.blk 1 (.regL [⟨none, .fa 25 3 (.t 4)⟩, ⟨none, .ld 26 false 1 (.t 25)⟩, ⟨none, .bs 27 1 (.sc (.bool false)) 0 []⟩, ⟨none, .fa 28 3 (.t 1)⟩, ⟨none, .ld 29 false 1 (.t 28)⟩, ⟨none, .mv 30 (.t 5)⟩, ⟨none, .ia 31 1 (.t 29) (.t 30)⟩, ⟨none, .ld 32 false 1 (.t 31)⟩] [([(.ld 26 false 1 (.t 25))], ⟨none, .app 33 1 1 (.t 27) (.t 32)⟩), ([(.ld 26 false 1 (.t 25))], ⟨none, .bs 34 1 (.ls (some true) 1 []) 1 [(0, (.t 33))]⟩), ([(.ld 26 false 1 (.t 25))], ⟨none, .app 35 1 24 (.t 26) (.t 34)⟩), ([], ⟨none, .fa 36 3 (.t 4)⟩), ([], ⟨none, .st 1 (.t 36) (.t 35)⟩)])) (.reg false [⟨none, .mv 23 (.t 5)⟩, ⟨none, .bin 24 .add (.t 23) (.c (.sc (.int .i64 1)))⟩, ⟨none, .mv 5 (.t 24)⟩]))))))))) ((.seq ((.seq (.reg false [⟨none, .mv 6 (.c (.sc (.int .i64 0)))⟩]) (.blk 2 (.loop ((.seq ((.seq (.reg false [⟨none, .mv 37 (.t 6)⟩, ⟨none, .fa 38 4 (.t 1)⟩, ⟨none, .ld 39 false 1 (.t 38)⟩, ⟨none, .len 40 (.t 39)⟩, ⟨none, .bin 41 .lss (.t 37) (.t 40)⟩]) (.cond (.t 41) (.skip) (.exit 2)))) ((.seq (.blk 3 ((.seq (.reg false [⟨none, .fa 44 2 (.t 1)⟩, ⟨none, .ld 45 false 1 (.t 44)⟩, ⟨none, .call (some 46) f2 [(.t 45)]⟩, ⟨none, .mv 7 (.t 46)⟩]) ((.seq ((.seq (.reg false [⟨none, .mv 8 (.c (.sc (.int .i64 0)))⟩]) (.blk 4 (.loop ((.seq ((.seq (.reg false [⟨none, .mv 47 (.t 8)⟩, ⟨none, .mv 48 (.t 7)⟩, ⟨none, .len 49 (.t 48)⟩, ⟨none, .bin 50 .lss (.t 47) (.t 49)⟩]) (.cond (.t 50) (.skip) (.exit 4)))) ((.seq (.blk 5 ((.seq (.reg false [⟨none, .mv 9 (.c (.sc (.int .i64 0)))⟩]) (.blk 6 (.loop ((.seq ((.seq (.reg false [⟨none, .mv 53 (.t 9)⟩, ⟨none, .mv 54 (.t 7)⟩, ⟨none, .len 55 (.t 54)⟩, ⟨none, .bin 56 .lss (.t 53) (.t 55)⟩]) (.cond (.t 56) (.skip) (.exit 6)))) ((.seq (.blk 7 (.reg true [⟨none, .mv 59 (.t 7)⟩, ⟨none, .mv 60 (.t 8)⟩, ⟨none, .ia 61 1 (.t 59) (.t 60)⟩, ⟨none, .ld 62 false 1 (.t 61)⟩, ⟨none, .mv 63 (.t 9)⟩, ⟨none, .fa 64 4 (.t 1)⟩, ⟨none, .ld 65 false 1 (.t 64)⟩, ⟨none, .mv 66 (.t 6)⟩, ⟨none, .ia 67 1 (.t 65) (.t 66)⟩, ⟨none, .ld 68 false 1 (.t 67)⟩, ⟨none, .mv 69 (.t 8)⟩, ⟨none, .ia 70 1 (.t 68) (.t 69)⟩, ⟨none, .ld 71 false 1 (.t 70)⟩, ⟨none, .mv 72 (.t 9)⟩, ⟨none, .ia 73 1 (.t 71) (.t 72)⟩, ⟨none, .ld 74 false 1 (.t 73)⟩, ⟨none, .bin 75 .neq (.t 74) (.c (.sc (.int .i64 (-1))))⟩, ⟨none, .ia 76 1 (.t 62) (.t 63)⟩, ⟨none, .st 1 (.t 76) (.t 75)⟩])) (.reg false [⟨none, .mv 57 (.t 9)⟩, ⟨none, .bin 58 .add (.t 57) (.c (.sc (.int .i64 1)))⟩, ⟨none, .mv 9 (.t 58)⟩])))))))))) (.reg false [⟨none, .mv 51 (.t 8)⟩, ⟨none, .bin 52 .add (.t 51) (.c (.sc (.int .i64 1)))⟩, ⟨none, .mv 8 (.t 52)⟩]))))))))) (.reg false [⟨none, .fa 77 4 (.t 4)⟩, ⟨none, .ld 78 false 1 (.t 77)⟩, ⟨none, .mv 79 (.t 7)⟩, ⟨none, .bs 80 1 (.ls (some true) 1 []) 1 [(0, (.t 79))]⟩, ⟨none, .app 81 1 24 (.t 78) (.t 80)⟩, ⟨none, .fa 82 4 (.t 4)⟩, ⟨none, .st 1 (.t 82) (.t 81)⟩])))))) (.reg false [⟨none, .mv 42 (.t 6)⟩, ⟨none, .bin 43 .add (.t 42) (.c (.sc (.int .i64 1)))⟩, ⟨none, .mv 6 (.t 43)⟩]))))))))) ((.seq (.reg false [⟨none, .ld 83 true 5 (.t 4)⟩, ⟨none, .st 5 (.t 2) (.t 83)⟩, ⟨none, .mv 3 (.c (.sc (.int .i64 0)))⟩]) (.ret))))))))))))
def K_spSupportOf (P : Program) (fno : Nat) : Prop := ∀ (m : Co) (hnn : ∀ r ∈ m.2.2.1.2, r.1 = some false), AF P fno [eCo m] (.tup ([.own (eM (suppR m).1), .own (eI (suppR m).2)]))
theorem a_spSupportOf {P : Program} (hm : P.follows .mixedOrders = true) {g f1 f2 : Nat} (hr : resF P g = some (84, k_spSupportOf f1 f2, [.c 2 5 true, .t 3])) (hc1 : K_l05CostsOk P f1) (hc2 : K_l05None P f2) : K_spSupportOf P g := by
  intro m hnn
  obtain ⟨gs, p, T, A⟩ := m
  refine af_of_res hr hm rfl fun hb => ?_
  simp +contextual -implicitDefEqProofs only [k_spSupportOf, at0, D.put, D.cells, D.size, D.sizeL, D.isAg, modeOf, noPtrs, List.length_map, eCo, eM, eS, eI, eB, D.sub, Int.cast_ofNat_Int, Int.reduceLT, Int.reduceLE, Int.le_refl, Int.reduceBEq, Int.reduceEq, beq_self_eq_true, Int.reduceToNat, bne, Bool.not_true, Bool.not_false, Bool.true_and, Bool.false_and, Bool.and_true, Bool.and_false, Bool.true_or, Bool.false_or, Bool.or_true, Bool.or_false, go_sem, ↓reduceIte, Nat.reduceEqDiff, Nat.reduceAdd, Nat.reduceLeDiff, Nat.reduceMul, Nat.reduceBEq, Nat.reduceBneDiff, Nat.reduceLT, Nat.reduceSub, Bool.false_eq_true, List.cons_append, List.nil_append, Int.ofNat_lt, Int.natCast_nonneg]
  refine callQ_self (ds := [.pt (eCo (gs, p, T, A)) 0]) (by rfl) (hc1 (gs, p, T, A)) ?_
  cases ho : okCo (gs, p, T, A)
  · rw [show suppR (gs, p, T, A) = (zeroMo, 1) by simp [suppR, ho]]
    simp +contextual -implicitDefEqProofs only [zeroMo, at0, D.put, D.cells, D.size, D.sizeL, D.isAg, modeOf, noPtrs, List.length_map, eCo, eM, eS, eI, eB, D.sub, Int.cast_ofNat_Int, Int.reduceLT, Int.reduceLE, Int.le_refl, Int.reduceBEq, Int.reduceEq, beq_self_eq_true, Int.reduceToNat, bne, Bool.not_true, Bool.not_false, Bool.true_and, Bool.false_and, Bool.and_true, Bool.and_false, Bool.true_or, Bool.false_or, Bool.or_true, Bool.or_false, go_sem, ↓reduceIte, Nat.reduceEqDiff, Nat.reduceAdd, Nat.reduceLeDiff, Nat.reduceMul, Nat.reduceBEq, Nat.reduceBneDiff, Nat.reduceLT, Nat.reduceSub, Bool.false_eq_true, List.cons_append, List.nil_append, Int.ofNat_lt, Int.natCast_nonneg]
  obtain ⟨n, hC⟩ := okCo_ok ho
  obtain rfl : p = n := hC.pts
  have n8 := hC.n8
  have n1 := hC.n1
  have tl := hC.tl
  have al := hC.al
  simp only at tl al
  rw [show suppR (gs, (n : Int), T, A) = (suppMo (gs, (n : Int), T, A) n, 0) by simp [suppR, ho]]
  have hS := supp_eq (c := (gs, (n : Int), T, A)) (n := n)
  simp only [eM, eS, eI] at hS
  simp +contextual -implicitDefEqProofs only [at0, D.put, D.cells, D.size, D.sizeL, D.isAg, modeOf, noPtrs, List.length_map, eCo, eM, eS, eI, eB, D.sub, Int.cast_ofNat_Int, Int.reduceLT, Int.reduceLE, Int.le_refl, Int.reduceBEq, Int.reduceEq, beq_self_eq_true, Int.reduceToNat, bne, Bool.not_true, Bool.not_false, Bool.true_and, Bool.false_and, Bool.and_true, Bool.and_false, Bool.true_or, Bool.false_or, Bool.or_true, Bool.or_false, go_sem, ↓reduceIte, Nat.reduceEqDiff, Nat.reduceAdd, Nat.reduceLeDiff, Nat.reduceMul, Nat.reduceBEq, Nat.reduceBneDiff, Nat.reduceLT, Nat.reduceSub, Bool.false_eq_true, List.cons_append, List.nil_append, Int.ofNat_lt, Int.natCast_nonneg]
  refine vc_onU (α := Nat) [5, 18, 19, 20, 21, 22, 23, 24, 25, 26, 27, 28, 29, 30, 31, 32, 33, 34, 35, 36] (fun i => [(5, .im none (.sc (.int .i64 i)))]) (fun i => [(4, .ar true (some false) 5 [.ag [.sc (.int .i64 gs.1), .sc (.int .i64 gs.2), .sc (.int .i64 n), .ls (nnL (T.2.take i)) 1 ((T.2.take i).map sRow), .ls (some true) 1 []]]), (2, .ar true (some false) 5 [.ag [.sc (.int .i64 0), .sc (.int .i64 0), .sc (.int .i64 0), .ls (some true) 1 [], .ls (some true) 1 []]]), (1, .ar false (some false) 5 [.ag [.sc (.int .i64 gs.1), .sc (.int .i64 gs.2), .sc (.int .i64 n), .ls T.1 1 (T.2.map (eS 1 eB)), .ls A.1 1 (A.2.map (eS 1 (eS 1 eI)))]])]) (fun i => i ≤ T.2.length) (fun i => T.2.length - i) 0 (Ent.to [] (by simp only [go_sem, ↓reduceIte, Nat.reduceEqDiff, Nat.reduceBEq, Nat.reduceBneDiff, Bool.false_eq_true]; rfl) rfl (by simp [nnL]) (by rfl) (by simp only [subEnv, go_sem, ↓reduceIte, Nat.reduceEqDiff, Nat.reduceBEq, keep, memN, Bool.or_false, Bool.false_or, Bool.or_self, Bool.false_eq_true] <;> simp)) (Nat.zero_le _) ?_
  intro i hi0
  by_cases hi : i < T.2.length
  · have e1 := at_map (f := eS 1 eB) hi
    have hrow := hC.tr _ (List.getElem_mem hi)
    have hnn' := hnn _ (List.getElem_mem hi)
    rcases hTi : T.2[i] with ⟨rn, _ | ⟨b, l⟩⟩
    · rw [hTi] at hrow; simp at hrow; omega
    rw [hTi] at e1 hrow hnn'
    simp +contextual -implicitDefEqProofs only [hi, e1, at0, hrow, np_B, List.map_cons, List.length_cons, D.put, D.cells, D.size, D.sizeL, D.isAg, modeOf, noPtrs, List.length_map, eCo, eM, eS, eI, eB, D.sub, Int.cast_ofNat_Int, Int.reduceLT, Int.reduceLE, Int.le_refl, Int.reduceBEq, Int.reduceEq, beq_self_eq_true, Int.reduceToNat, bne, Bool.not_true, Bool.not_false, Bool.true_and, Bool.false_and, Bool.and_true, Bool.and_false, Bool.true_or, Bool.false_or, Bool.or_true, Bool.or_false, go_sem, ↓reduceIte, Nat.reduceEqDiff, Nat.reduceAdd, Nat.reduceLeDiff, Nat.reduceMul, Nat.reduceBEq, Nat.reduceBneDiff, Nat.reduceLT, Nat.reduceSub, Bool.false_eq_true, List.cons_append, List.nil_append, Int.ofNat_lt, Int.natCast_nonneg]
    simp only [List.length_cons] at hrow
    refine ⟨⟨by omega, by unfold maxEl; omega, sz_Bc⟩, rfl, ?_⟩
    have hsm := tl
    refine ⟨⟨by (try simp); omega, by unfold maxEl; (try simp); omega, by simp [D.size]⟩, i + 1, by omega, by omega, ?_⟩
    rw [wrap_i64 (by omega) (by omega)]
    exact Ent.to [] (by simp only [go_sem, ↓reduceIte, Nat.reduceEqDiff, Nat.reduceBEq, Nat.reduceBneDiff, Bool.false_eq_true]; rfl) rfl (by simp [nnL_take hi, map_take hi, sRow, hTi, eB]) (by rfl) (by simp only [subEnv, go_sem, ↓reduceIte, Nat.reduceEqDiff, Nat.reduceBEq, keep, memN, Bool.or_false, Bool.false_or, Bool.or_self, Bool.false_eq_true] <;> simp)
  · rw [List.take_of_length_le (show T.2.length ≤ i by omega)]
    simp +contextual -implicitDefEqProofs only [hi, at0, D.put, D.cells, D.size, D.sizeL, D.isAg, modeOf, noPtrs, List.length_map, eCo, eM, eS, eI, eB, D.sub, Int.cast_ofNat_Int, Int.reduceLT, Int.reduceLE, Int.le_refl, Int.reduceBEq, Int.reduceEq, beq_self_eq_true, Int.reduceToNat, bne, Bool.not_true, Bool.not_false, Bool.true_and, Bool.false_and, Bool.and_true, Bool.and_false, Bool.true_or, Bool.false_or, Bool.or_true, Bool.or_false, go_sem, ↓reduceIte, Nat.reduceEqDiff, Nat.reduceAdd, Nat.reduceLeDiff, Nat.reduceMul, Nat.reduceBEq, Nat.reduceBneDiff, Nat.reduceLT, Nat.reduceSub, Bool.false_eq_true, List.cons_append, List.nil_append, Int.ofNat_lt, Int.natCast_nonneg]
    refine vc_onU (α := Nat) [6, 7, 8, 9, 37, 38, 39, 40, 41, 42, 43, 44, 45, 46, 47, 48, 49, 50, 51, 52, 53, 54, 55, 56, 57, 58, 59, 60, 61, 62, 63, 64, 65, 66, 67, 68, 69, 70, 71, 72, 73, 74, 75, 76, 77, 78, 79, 80, 81, 82] (fun i => [(6, .im none (.sc (.int .i64 i)))]) (fun i => [(4, .ar true (some false) 5 [.ag [.sc (.int .i64 gs.1), .sc (.int .i64 gs.2), .sc (.int .i64 n), .ls (nnL (T.2)) 1 ((T.2).map sRow), .ls (nnL (A.2.take i)) 1 ((A.2.take i).map (sTab n))]]), (2, .ar true (some false) 5 [.ag [.sc (.int .i64 0), .sc (.int .i64 0), .sc (.int .i64 0), .ls (some true) 1 [], .ls (some true) 1 []]]), (1, .ar false (some false) 5 [.ag [.sc (.int .i64 gs.1), .sc (.int .i64 gs.2), .sc (.int .i64 n), .ls T.1 1 (T.2.map (eS 1 eB)), .ls A.1 1 (A.2.map (eS 1 (eS 1 eI)))]])]) (fun i => i ≤ A.2.length) (fun i => A.2.length - i) 0 (Ent.to [] (by simp only [go_sem, ↓reduceIte, Nat.reduceEqDiff, Nat.reduceBEq, Nat.reduceBneDiff, Bool.false_eq_true]; rfl) rfl (by simp [nnL]) (by rfl) (by simp only [subEnv, go_sem, ↓reduceIte, Nat.reduceEqDiff, Nat.reduceBEq, keep, memN, Bool.or_false, Bool.false_or, Bool.or_self, Bool.false_eq_true] <;> simp)) (Nat.zero_le _) ?_
    intro i hi0
    by_cases hi : i < A.2.length
    · have e1 := at_map (f := eS 1 (eS 1 eI)) hi
      have sq := hC.asq _ (List.getElem_mem hi)
      simp +contextual -implicitDefEqProofs only [hi, e1, at0, D.put, D.cells, D.size, D.sizeL, D.isAg, modeOf, noPtrs, List.length_map, eCo, eM, eS, eI, eB, D.sub, Int.cast_ofNat_Int, Int.reduceLT, Int.reduceLE, Int.le_refl, Int.reduceBEq, Int.reduceEq, beq_self_eq_true, Int.reduceToNat, bne, Bool.not_true, Bool.not_false, Bool.true_and, Bool.false_and, Bool.and_true, Bool.and_false, Bool.true_or, Bool.false_or, Bool.or_true, Bool.or_false, go_sem, ↓reduceIte, Nat.reduceEqDiff, Nat.reduceAdd, Nat.reduceLeDiff, Nat.reduceMul, Nat.reduceBEq, Nat.reduceBneDiff, Nat.reduceLT, Nat.reduceSub, Bool.false_eq_true, List.cons_append, List.nil_append, Int.ofNat_lt, Int.natCast_nonneg]
      refine callQ_self (ds := [eI n]) (by rfl) (hc2 n (by omega)) ?_
      simp +contextual -implicitDefEqProofs only [rD_len, eCo, eM, eS, eI, eB, D.size, D.sizeL, D.sub, Int.cast_ofNat_Int, Int.reduceLT, Int.reduceLE, Int.le_refl, Int.reduceBEq, Int.reduceEq, beq_self_eq_true, Int.reduceToNat, D.isAg, bne, Bool.not_true, Bool.not_false, Bool.true_and, Bool.false_and, Bool.and_true, Bool.and_false, Bool.true_or, Bool.false_or, Bool.or_true, Bool.or_false, go_sem, ↓reduceIte, Nat.reduceEqDiff, Nat.reduceAdd, Nat.reduceLeDiff, Nat.reduceMul, Nat.reduceBEq, Nat.reduceBneDiff, Nat.reduceLT, Nat.reduceSub, Bool.false_eq_true, List.cons_append, List.nil_append, Int.ofNat_lt, List.length_map, Int.natCast_nonneg]
      refine vc_onU (α := Nat) [8, 9, 47, 48, 49, 50, 51, 52, 53, 54, 55, 56, 57, 58, 59, 60, 61, 62, 63, 64, 65, 66, 67, 68, 69, 70, 71, 72, 73, 74, 75, 76] (fun x => [(8, .im none (.sc (.int .i64 x)))]) (fun x => [(46, .ar true (some false) 1 (rD n (rowF (supR A.2[i]) x))), (4, .ar true (some false) 5 [.ag [.sc (.int .i64 gs.1), .sc (.int .i64 gs.2), .sc (.int .i64 n), .ls (nnL (T.2)) 1 ((T.2).map sRow), .ls (nnL (A.2.take i)) 1 ((A.2.take i).map (sTab n))]]), (2, .ar true (some false) 5 [.ag [.sc (.int .i64 0), .sc (.int .i64 0), .sc (.int .i64 0), .ls (some true) 1 [], .ls (some true) 1 []]]), (1, .ar false (some false) 5 [.ag [.sc (.int .i64 gs.1), .sc (.int .i64 gs.2), .sc (.int .i64 n), .ls T.1 1 (T.2.map (eS 1 eB)), .ls A.1 1 (A.2.map (eS 1 (eS 1 eI)))]])]) (fun x => x ≤ n) (fun x => n - x) 0 (Ent.to [] (by simp only [go_sem, ↓reduceIte, Nat.reduceEqDiff, Nat.reduceBEq, Nat.reduceBneDiff, Bool.false_eq_true]; rfl) rfl (by simp [rowF_zero, noneR_eq]) (by rfl) (by simp only [subEnv, go_sem, ↓reduceIte, Nat.reduceEqDiff, Nat.reduceBEq, keep, memN, Bool.or_false, Bool.false_or, Bool.or_self, Bool.false_eq_true] <;> simp)) (Nat.zero_le _) ?_
      intro x hx0
      by_cases hx : x < n
      · simp +contextual -implicitDefEqProofs only [hx, rD_len, eCo, eM, eS, eI, eB, D.size, D.sizeL, D.sub, Int.cast_ofNat_Int, Int.reduceLT, Int.reduceLE, Int.le_refl, Int.reduceBEq, Int.reduceEq, beq_self_eq_true, Int.reduceToNat, D.isAg, bne, Bool.not_true, Bool.not_false, Bool.true_and, Bool.false_and, Bool.and_true, Bool.and_false, Bool.true_or, Bool.false_or, Bool.or_true, Bool.or_false, go_sem, ↓reduceIte, Nat.reduceEqDiff, Nat.reduceAdd, Nat.reduceLeDiff, Nat.reduceMul, Nat.reduceBEq, Nat.reduceBneDiff, Nat.reduceLT, Nat.reduceSub, Bool.false_eq_true, List.cons_append, List.nil_append, Int.ofNat_lt, List.length_map, Int.natCast_nonneg]
        refine vc_onU (α := Nat) [9, 53, 54, 55, 56, 57, 58, 59, 60, 61, 62, 63, 64, 65, 66, 67, 68, 69, 70, 71, 72, 73, 74, 75, 76] (fun y => [(9, .im none (.sc (.int .i64 y)))]) (fun y => [(46, .ar true (some false) 1 (rD n (cellF (supR A.2[i]) x y))), (4, .ar true (some false) 5 [.ag [.sc (.int .i64 gs.1), .sc (.int .i64 gs.2), .sc (.int .i64 n), .ls (nnL (T.2)) 1 ((T.2).map sRow), .ls (nnL (A.2.take i)) 1 ((A.2.take i).map (sTab n))]]), (2, .ar true (some false) 5 [.ag [.sc (.int .i64 0), .sc (.int .i64 0), .sc (.int .i64 0), .ls (some true) 1 [], .ls (some true) 1 []]]), (1, .ar false (some false) 5 [.ag [.sc (.int .i64 gs.1), .sc (.int .i64 gs.2), .sc (.int .i64 n), .ls T.1 1 (T.2.map (eS 1 eB)), .ls A.1 1 (A.2.map (eS 1 (eS 1 eI)))]])]) (fun y => y ≤ n) (fun y => n - y) 0 (Ent.to [] (by simp only [go_sem, ↓reduceIte, Nat.reduceEqDiff, Nat.reduceBEq, Nat.reduceBneDiff, Bool.false_eq_true]; rfl) rfl (by simp [cellF_zero]) (by rfl) (by simp only [subEnv, go_sem, ↓reduceIte, Nat.reduceEqDiff, Nat.reduceBEq, keep, memN, Bool.or_false, Bool.false_or, Bool.or_self, Bool.false_eq_true] <;> simp)) (Nat.zero_le _) ?_
        intro y hy0
        by_cases hy : y < n
        · have a1 := rD_at (R := cellF (supR A.2[i]) x y) hx
          have a2 := rRow_at (f := cellF (supR A.2[i]) x y x) hy
          have hst := cellF_step (R := (supR A.2[i])) (i := x) (y := y)
          have b1 := sq.at hx
          have b2 := sq.at2 hx hy
          have b3 := sq.rows hx
          have b4 := sq.len
          have b5 : (!(iOf A.2[i] x y == -1)) = supR A.2[i] x y := rfl
          rw [← b5] at hst
          simp +contextual -implicitDefEqProofs only [hi, e1, at0, hx, hy, rD_len, rRow_len, a1, a2, b1, b2, b3, b4, D.put, D.cells, D.size, D.sizeL, D.isAg, modeOf, noPtrs, List.length_map, eCo, eM, eS, eI, eB, D.sub, Int.cast_ofNat_Int, Int.reduceLT, Int.reduceLE, Int.le_refl, Int.reduceBEq, Int.reduceEq, beq_self_eq_true, Int.reduceToNat, bne, Bool.not_true, Bool.not_false, Bool.true_and, Bool.false_and, Bool.and_true, Bool.and_false, Bool.true_or, Bool.false_or, Bool.or_true, Bool.or_false, inSet, rD_set, List.length_set, go_sem, ↓reduceIte, Nat.reduceEqDiff, Nat.reduceAdd, Nat.reduceLeDiff, Nat.reduceMul, Nat.reduceBEq, Nat.reduceBneDiff, Nat.reduceLT, Nat.reduceSub, Bool.false_eq_true, List.cons_append, List.nil_append, Int.ofNat_lt, Int.natCast_nonneg]
          rw [wrap_i64 (by omega) (by omega), hst]
          exact ⟨y + 1, by omega, by omega, Ent.to [] (by simp only [go_sem, ↓reduceIte, Nat.reduceEqDiff, Nat.reduceBEq, Nat.reduceBneDiff, Bool.false_eq_true]; rfl) rfl (by simp) (by rfl) (by simp only [subEnv, go_sem, ↓reduceIte, Nat.reduceEqDiff, Nat.reduceBEq, keep, memN, Bool.or_false, Bool.false_or, Bool.or_self, Bool.false_eq_true] <;> simp)⟩
        · obtain rfl : y = n := by omega
          simp +contextual -implicitDefEqProofs only [hx, hy, rD_len, eCo, eM, eS, eI, eB, D.size, D.sizeL, D.sub, Int.cast_ofNat_Int, Int.reduceLT, Int.reduceLE, Int.le_refl, Int.reduceBEq, Int.reduceEq, beq_self_eq_true, Int.reduceToNat, D.isAg, bne, Bool.not_true, Bool.not_false, Bool.true_and, Bool.false_and, Bool.and_true, Bool.and_false, Bool.true_or, Bool.false_or, Bool.or_true, Bool.or_false, go_sem, ↓reduceIte, Nat.reduceEqDiff, Nat.reduceAdd, Nat.reduceLeDiff, Nat.reduceMul, Nat.reduceBEq, Nat.reduceBneDiff, Nat.reduceLT, Nat.reduceSub, Bool.false_eq_true, List.cons_append, List.nil_append, Int.ofNat_lt, List.length_map, Int.natCast_nonneg]
          rw [wrap_i64 (by omega) (by omega)]
          exact ⟨x + 1, by omega, by omega, Ent.to [] (by simp only [go_sem, ↓reduceIte, Nat.reduceEqDiff, Nat.reduceBEq, Nat.reduceBneDiff, Bool.false_eq_true]; rfl) rfl (by simp [cellF_full]) (by rfl) (by simp only [subEnv, go_sem, ↓reduceIte, Nat.reduceEqDiff, Nat.reduceBEq, keep, memN, Bool.or_false, Bool.false_or, Bool.or_self, Bool.false_eq_true] <;> simp)⟩
      · obtain rfl : x = n := by omega
        simp +contextual -implicitDefEqProofs only [hx, rD_len, at0, D.put, D.cells, D.size, D.sizeL, D.isAg, modeOf, noPtrs, List.length_map, eCo, eM, eS, eI, eB, D.sub, Int.cast_ofNat_Int, Int.reduceLT, Int.reduceLE, Int.le_refl, Int.reduceBEq, Int.reduceEq, beq_self_eq_true, Int.reduceToNat, bne, Bool.not_true, Bool.not_false, Bool.true_and, Bool.false_and, Bool.and_true, Bool.and_false, Bool.true_or, Bool.false_or, Bool.or_true, Bool.or_false, go_sem, ↓reduceIte, Nat.reduceEqDiff, Nat.reduceAdd, Nat.reduceLeDiff, Nat.reduceMul, Nat.reduceBEq, Nat.reduceBneDiff, Nat.reduceLT, Nat.reduceSub, Bool.false_eq_true, List.cons_append, List.nil_append, Int.ofNat_lt, Int.natCast_nonneg]
        have hsm := al
        refine ⟨rfl, ⟨by (try simp); omega, by unfold maxEl; (try simp); omega, by simp [D.size]⟩, i + 1, by omega, by omega, ?_⟩
        rw [wrap_i64 (by omega) (by omega)]
        exact Ent.to [] (by simp only [go_sem, ↓reduceIte, Nat.reduceEqDiff, Nat.reduceBEq, Nat.reduceBneDiff, Bool.false_eq_true]; rfl) rfl (by simp [nnL_take hi, map_take hi, sTab, rowF_full]) (by rfl) (by simp only [subEnv, go_sem, ↓reduceIte, Nat.reduceEqDiff, Nat.reduceBEq, keep, memN, Bool.or_false, Bool.false_or, Bool.or_self, Bool.false_eq_true] <;> simp)
    · obtain rfl : i = A.2.length := by omega
      rw [List.take_length]
      simp +contextual -implicitDefEqProofs only [hi, at0, D.put, D.cells, D.size, D.sizeL, D.isAg, modeOf, noPtrs, List.length_map, eCo, eM, eS, eI, eB, D.sub, Int.cast_ofNat_Int, Int.reduceLT, Int.reduceLE, Int.le_refl, Int.reduceBEq, Int.reduceEq, beq_self_eq_true, Int.reduceToNat, bne, Bool.not_true, Bool.not_false, Bool.true_and, Bool.false_and, Bool.and_true, Bool.and_false, Bool.true_or, Bool.false_or, Bool.or_true, Bool.or_false, go_sem, ↓reduceIte, Nat.reduceEqDiff, Nat.reduceAdd, Nat.reduceLeDiff, Nat.reduceMul, Nat.reduceBEq, Nat.reduceBneDiff, Nat.reduceLT, Nat.reduceSub, Bool.false_eq_true, List.cons_append, List.nil_append, Int.ofNat_lt, Int.natCast_nonneg]
      exact D.Le.of_eq hS.symm

def k_imSupportOf (f1 f2 f3 f4 : Nat) : RC := (.seq (.reg false [⟨none, .box 1 5 (.t 0)⟩, ⟨none, .zer 2 5 (.ag [(.sc (.int .i64 0)), (.sc (.int .i64 0)), (.sc (.int .i64 0)), (.ls (some true) 1 []), (.ls (some true) 1 [])])⟩, ⟨none, .mv 3 (.c (.sc (.int .i64 0)))⟩]) ((.seq ((.seq (.reg false [⟨none, .ld 9 true 5 (.t 1)⟩, ⟨none, .call (some 10) f1 [(.t 9)]⟩, ⟨none, .un 11 .not (.t 10)⟩]) (.cond (.t 11) ((.seq (.reg false [⟨none, .bld 12 (.ag [(.sc (.int .i64 0)), (.sc (.int .i64 0)), (.sc (.int .i64 0)), (.ls (some true) 1 []), (.ls (some true) 1 [])]) []⟩, ⟨none, .st 5 (.t 2) (.t 12)⟩, ⟨none, .mv 3 (.c (.sc (.int .i64 1)))⟩]) (.ret))) (.skip)))) ((.seq (.reg false [⟨none, .fa 13 0 (.t 1)⟩, ⟨none, .ld 14 true 2 (.t 13)⟩, ⟨none, .fa 15 2 (.t 1)⟩, ⟨none, .ld 16 false 1 (.t 15)⟩, ⟨none, .bld 17 (.ag [(.sc (.int .i64 0)), (.sc (.int .i64 0)), (.sc (.int .i64 0)), (.ls (some true) 1 []), (.ls (some true) 1 [])]) [(0, 2, (.t 14)), (2, 1, (.t 16))]⟩, ⟨none, .zer 4 5 (.ag [(.sc (.int .i64 0)), (.sc (.int .i64 0)), (.sc (.int .i64 0)), (.ls (some true) 1 []), (.ls (some true) 1 [])])⟩, ⟨none, .st 5 (.t 4) (.t 17)⟩]) ((.seq ((.seq (.reg false [⟨none, .fa 18 3 (.t 1)⟩, ⟨none, .ld 19 false 1 (.t 18)⟩, ⟨none, .len 20 (.t 19)⟩, ⟨none, .mv 21 (.c (.sc (.int .i64 0)))⟩]) (.blk 0 (.loop ((.seq (.reg false [⟨none, .bin 22 .lss (.t 21) (.t 20)⟩]) ((.seq (.cond (.t 22) (.skip) (.exit 0)) ((.seq (.blk 1 ((.seq (.reg false [⟨none, .ia 23 1 (.t 19) (.t 21)⟩, ⟨none, .ld 24 false 1 (.t 23)⟩, ⟨none, .mv 6 (.t 24)⟩]) (.reg true [⟨none, .fa 25 3 (.t 4)⟩, ⟨none, .ld 26 false 1 (.t 25)⟩, ⟨none, .mv 27 (.t 6)⟩, ⟨none, .call (some 28) f2 [(.t 27)]⟩, ⟨none, .bs 29 1 (.ls (some true) 1 []) 1 [(0, (.t 28))]⟩, ⟨none, .app 30 1 24 (.t 26) (.t 29)⟩, ⟨none, .fa 31 3 (.t 4)⟩, ⟨none, .st 1 (.t 31) (.t 30)⟩])))) (.reg false [⟨none, .bin 32 .add (.t 21) (.c (.sc (.int .i64 1)))⟩, ⟨none, .mv 21 (.t 32)⟩]))))))))))) ((.seq ((.seq (.reg false [⟨none, .fa 33 4 (.t 1)⟩, ⟨none, .ld 34 false 1 (.t 33)⟩, ⟨none, .len 35 (.t 34)⟩, ⟨none, .mv 36 (.c (.sc (.int .i64 0)))⟩]) (.blk 2 (.loop ((.seq (.reg false [⟨none, .bin 37 .lss (.t 36) (.t 35)⟩]) ((.seq (.cond (.t 37) (.skip) (.exit 2)) ((.seq (.blk 3 ((.seq (.reg false [⟨none, .ia 38 1 (.t 34) (.t 36)⟩, ⟨none, .ld 39 false 1 (.t 38)⟩, ⟨none, .zer 8 1 (.ls (some true) 1 [])⟩, ⟨none, .st 1 (.t 8) (.t 39)⟩]) (.reg true [⟨none, .fa 40 4 (.t 4)⟩, ⟨none, .ld 41 false 1 (.t 40)⟩, ⟨none, .fa 42 2 (.t 1)⟩, ⟨none, .ld 43 false 1 (.t 42)⟩, ⟨none, .mkf 44 f4 [(.t 8)]⟩, ⟨none, .call (some 45) f3 [(.t 43), (.t 44)]⟩, ⟨none, .bs 46 1 (.ls (some true) 1 []) 1 [(0, (.t 45))]⟩, ⟨none, .app 47 1 24 (.t 41) (.t 46)⟩, ⟨none, .fa 48 4 (.t 4)⟩, ⟨none, .st 1 (.t 48) (.t 47)⟩])))) (.reg false [⟨none, .bin 49 .add (.t 36) (.c (.sc (.int .i64 1)))⟩, ⟨none, .mv 36 (.t 49)⟩]))))))))))) ((.seq (.reg false [⟨none, .ld 50 true 5 (.t 4)⟩, ⟨none, .st 5 (.t 2) (.t 50)⟩, ⟨none, .mv 3 (.c (.sc (.int .i64 0)))⟩]) (.ret))))))))))))
def K_imSupportOf (P : Program) (fno : Nat) : Prop := ∀ (m : Co) (hnn : ∀ r ∈ m.2.2.1.2, r.1 = some false), AF P fno [eCo m] (.tup ([.own (eM (suppR m).1), .own (eI (suppR m).2)]))
theorem a_imSupportOf {P : Program} (hm : P.follows .mixedOrders = true) {g f1 f2 f3 f4 : Nat} (hr : resF P g = some (51, k_imSupportOf f1 f2 f3 f4, [.c 2 5 true, .t 3])) (hc1 : K_imValidCosts P f1) (hc2 : K_clone P f2) (hc3 : K_tableB P f3) (hc4 : K_support1 P f4) : K_imSupportOf P g := by
  intro m hnn
  obtain ⟨gs, p, T, A⟩ := m
  refine af_of_res hr hm rfl fun hb => ?_
  simp +contextual -implicitDefEqProofs only [k_imSupportOf, at0, D.put, D.cells, D.size, D.sizeL, D.isAg, modeOf, noPtrs, List.length_map, eCo, eM, eS, eI, eB, D.sub, Int.cast_ofNat_Int, Int.reduceLT, Int.reduceLE, Int.le_refl, Int.reduceBEq, Int.reduceEq, beq_self_eq_true, Int.reduceToNat, bne, Bool.not_true, Bool.not_false, Bool.true_and, Bool.false_and, Bool.and_true, Bool.and_false, Bool.true_or, Bool.false_or, Bool.or_true, Bool.or_false, go_sem, ↓reduceIte, Nat.reduceEqDiff, Nat.reduceAdd, Nat.reduceLeDiff, Nat.reduceMul, Nat.reduceBEq, Nat.reduceBneDiff, Nat.reduceLT, Nat.reduceSub, Bool.false_eq_true, List.cons_append, List.nil_append, Int.ofNat_lt, Int.natCast_nonneg]
  refine callQ_self (ds := [eCo (gs, p, T, A)]) (by rfl) (hc1 (gs, p, T, A)) ?_
  cases ho : okCo (gs, p, T, A)
  · rw [show suppR (gs, p, T, A) = (zeroMo, 1) by simp [suppR, ho]]
    simp +contextual -implicitDefEqProofs only [zeroMo, at0, D.put, D.cells, D.size, D.sizeL, D.isAg, modeOf, noPtrs, List.length_map, eCo, eM, eS, eI, eB, D.sub, Int.cast_ofNat_Int, Int.reduceLT, Int.reduceLE, Int.le_refl, Int.reduceBEq, Int.reduceEq, beq_self_eq_true, Int.reduceToNat, bne, Bool.not_true, Bool.not_false, Bool.true_and, Bool.false_and, Bool.and_true, Bool.and_false, Bool.true_or, Bool.false_or, Bool.or_true, Bool.or_false, go_sem, ↓reduceIte, Nat.reduceEqDiff, Nat.reduceAdd, Nat.reduceLeDiff, Nat.reduceMul, Nat.reduceBEq, Nat.reduceBneDiff, Nat.reduceLT, Nat.reduceSub, Bool.false_eq_true, List.cons_append, List.nil_append, Int.ofNat_lt, Int.natCast_nonneg]
  obtain ⟨n, hC⟩ := okCo_ok ho
  obtain rfl : p = n := hC.pts
  have n8 := hC.n8
  have n1 := hC.n1
  have tl := hC.tl
  have al := hC.al
  simp only at tl al
  rw [show suppR (gs, (n : Int), T, A) = (suppMo (gs, (n : Int), T, A) n, 0) by simp [suppR, ho]]
  have hS := supp_eq (c := (gs, (n : Int), T, A)) (n := n)
  simp only [eM, eS, eI] at hS
  simp +contextual -implicitDefEqProofs only [at0, D.put, D.cells, D.size, D.sizeL, D.isAg, modeOf, noPtrs, List.length_map, eCo, eM, eS, eI, eB, D.sub, Int.cast_ofNat_Int, Int.reduceLT, Int.reduceLE, Int.le_refl, Int.reduceBEq, Int.reduceEq, beq_self_eq_true, Int.reduceToNat, bne, Bool.not_true, Bool.not_false, Bool.true_and, Bool.false_and, Bool.and_true, Bool.and_false, Bool.true_or, Bool.false_or, Bool.or_true, Bool.or_false, go_sem, ↓reduceIte, Nat.reduceEqDiff, Nat.reduceAdd, Nat.reduceLeDiff, Nat.reduceMul, Nat.reduceBEq, Nat.reduceBneDiff, Nat.reduceLT, Nat.reduceSub, Bool.false_eq_true, List.cons_append, List.nil_append, Int.ofNat_lt, Int.natCast_nonneg]
  refine vc_onU (α := Nat) [6, 21, 22, 23, 24, 25, 26, 27, 28, 29, 30, 31, 32] (fun i => [(21, .im none (.sc (.int .i64 i)))]) (fun i => [(4, .ar true (some false) 5 [.ag [.sc (.int .i64 gs.1), .sc (.int .i64 gs.2), .sc (.int .i64 n), .ls (nnL (T.2.take i)) 1 ((T.2.take i).map sRow), .ls (some true) 1 []]]), (2, .ar true (some false) 5 [.ag [.sc (.int .i64 0), .sc (.int .i64 0), .sc (.int .i64 0), .ls (some true) 1 [], .ls (some true) 1 []]]), (1, .ar false (some false) 5 [.ag [.sc (.int .i64 gs.1), .sc (.int .i64 gs.2), .sc (.int .i64 n), .ls T.1 1 (T.2.map (eS 1 eB)), .ls A.1 1 (A.2.map (eS 1 (eS 1 eI)))]])]) (fun i => i ≤ T.2.length) (fun i => T.2.length - i) 0 (Ent.to [] (by simp only [go_sem, ↓reduceIte, Nat.reduceEqDiff, Nat.reduceBEq, Nat.reduceBneDiff, Bool.false_eq_true]; rfl) rfl (by simp [nnL]) (by rfl) (by simp only [subEnv, go_sem, ↓reduceIte, Nat.reduceEqDiff, Nat.reduceBEq, keep, memN, Bool.or_false, Bool.false_or, Bool.or_self, Bool.false_eq_true] <;> simp)) (Nat.zero_le _) ?_
  intro i hi0
  by_cases hi : i < T.2.length
  · have e1 := at_map (f := eS 1 eB) hi
    have hrow := hC.tr _ (List.getElem_mem hi)
    have hnn' := hnn _ (List.getElem_mem hi)
    rcases hTi : T.2[i] with ⟨rn, _ | ⟨b, l⟩⟩
    · rw [hTi] at hrow; simp at hrow; omega
    rw [hTi] at e1 hrow hnn'
    simp +contextual -implicitDefEqProofs only [hi, e1, at0, hrow, np_B, List.map_cons, List.length_cons, D.put, D.cells, D.size, D.sizeL, D.isAg, modeOf, noPtrs, List.length_map, eCo, eM, eS, eI, eB, D.sub, Int.cast_ofNat_Int, Int.reduceLT, Int.reduceLE, Int.le_refl, Int.reduceBEq, Int.reduceEq, beq_self_eq_true, Int.reduceToNat, bne, Bool.not_true, Bool.not_false, Bool.true_and, Bool.false_and, Bool.and_true, Bool.and_false, Bool.true_or, Bool.false_or, Bool.or_true, Bool.or_false, go_sem, ↓reduceIte, Nat.reduceEqDiff, Nat.reduceAdd, Nat.reduceLeDiff, Nat.reduceMul, Nat.reduceBEq, Nat.reduceBneDiff, Nat.reduceLT, Nat.reduceSub, Bool.false_eq_true, List.cons_append, List.nil_append, Int.ofNat_lt, Int.natCast_nonneg]
    refine callQ_self (ds := [eS 1 eB (rn, b :: l)]) (by rfl) (hc2 (rn, b :: l) hnn' (by simp only [List.length_cons] at hrow ⊢; omega)) ?_
    simp +contextual -implicitDefEqProofs only [at0, D.put, D.cells, D.size, D.sizeL, D.isAg, modeOf, noPtrs, List.length_map, eCo, eM, eS, eI, eB, D.sub, Int.cast_ofNat_Int, Int.reduceLT, Int.reduceLE, Int.le_refl, Int.reduceBEq, Int.reduceEq, beq_self_eq_true, Int.reduceToNat, bne, Bool.not_true, Bool.not_false, Bool.true_and, Bool.false_and, Bool.and_true, Bool.and_false, Bool.true_or, Bool.false_or, Bool.or_true, Bool.or_false, go_sem, ↓reduceIte, Nat.reduceEqDiff, Nat.reduceAdd, Nat.reduceLeDiff, Nat.reduceMul, Nat.reduceBEq, Nat.reduceBneDiff, Nat.reduceLT, Nat.reduceSub, Bool.false_eq_true, List.cons_append, List.nil_append, Int.ofNat_lt, Int.natCast_nonneg]
    have hsm := tl
    refine ⟨rfl, ⟨by (try simp); omega, by unfold maxEl; (try simp); omega, by simp [D.size]⟩, i + 1, by omega, by omega, ?_⟩
    rw [wrap_i64 (by omega) (by omega)]
    exact Ent.to [] (by simp only [go_sem, ↓reduceIte, Nat.reduceEqDiff, Nat.reduceBEq, Nat.reduceBneDiff, Bool.false_eq_true]; rfl) rfl (by simp [nnL_take hi, map_take hi, sRow, hTi, eB]) (by rfl) (by simp only [subEnv, go_sem, ↓reduceIte, Nat.reduceEqDiff, Nat.reduceBEq, keep, memN, Bool.or_false, Bool.false_or, Bool.or_self, Bool.false_eq_true] <;> simp)
  · rw [List.take_of_length_le (show T.2.length ≤ i by omega)]
    simp +contextual -implicitDefEqProofs only [hi, at0, D.put, D.cells, D.size, D.sizeL, D.isAg, modeOf, noPtrs, List.length_map, eCo, eM, eS, eI, eB, D.sub, Int.cast_ofNat_Int, Int.reduceLT, Int.reduceLE, Int.le_refl, Int.reduceBEq, Int.reduceEq, beq_self_eq_true, Int.reduceToNat, bne, Bool.not_true, Bool.not_false, Bool.true_and, Bool.false_and, Bool.and_true, Bool.and_false, Bool.true_or, Bool.false_or, Bool.or_true, Bool.or_false, go_sem, ↓reduceIte, Nat.reduceEqDiff, Nat.reduceAdd, Nat.reduceLeDiff, Nat.reduceMul, Nat.reduceBEq, Nat.reduceBneDiff, Nat.reduceLT, Nat.reduceSub, Bool.false_eq_true, List.cons_append, List.nil_append, Int.ofNat_lt, Int.natCast_nonneg]
    refine vc_onU (α := Nat) [8, 36, 37, 38, 39, 40, 41, 42, 43, 45, 46, 47, 48, 49] (fun i => [(36, .im none (.sc (.int .i64 i)))]) (fun i => [(4, .ar true (some false) 5 [.ag [.sc (.int .i64 gs.1), .sc (.int .i64 gs.2), .sc (.int .i64 n), .ls (nnL (T.2)) 1 ((T.2).map sRow), .ls (nnL (A.2.take i)) 1 ((A.2.take i).map (sTab n))]]), (2, .ar true (some false) 5 [.ag [.sc (.int .i64 0), .sc (.int .i64 0), .sc (.int .i64 0), .ls (some true) 1 [], .ls (some true) 1 []]]), (1, .ar false (some false) 5 [.ag [.sc (.int .i64 gs.1), .sc (.int .i64 gs.2), .sc (.int .i64 n), .ls T.1 1 (T.2.map (eS 1 eB)), .ls A.1 1 (A.2.map (eS 1 (eS 1 eI)))]])]) (fun i => i ≤ A.2.length) (fun i => A.2.length - i) 0 (Ent.to [] (by simp only [go_sem, ↓reduceIte, Nat.reduceEqDiff, Nat.reduceBEq, Nat.reduceBneDiff, Bool.false_eq_true]; rfl) rfl (by simp [nnL]) (by rfl) (by simp only [subEnv, go_sem, ↓reduceIte, Nat.reduceEqDiff, Nat.reduceBEq, keep, memN, Bool.or_false, Bool.false_or, Bool.or_self, Bool.false_eq_true] <;> simp)) (Nat.zero_le _) ?_
    intro i hi0
    by_cases hi : i < A.2.length
    · have e1 := at_map (f := eS 1 (eS 1 eI)) hi
      have sq := hC.asq _ (List.getElem_mem hi)
      simp +contextual -implicitDefEqProofs only [hi, e1, at0, D.put, D.cells, D.size, D.sizeL, D.isAg, modeOf, noPtrs, List.length_map, eCo, eM, eS, eI, eB, D.sub, Int.cast_ofNat_Int, Int.reduceLT, Int.reduceLE, Int.le_refl, Int.reduceBEq, Int.reduceEq, beq_self_eq_true, Int.reduceToNat, bne, Bool.not_true, Bool.not_false, Bool.true_and, Bool.false_and, Bool.and_true, Bool.and_false, Bool.true_or, Bool.false_or, Bool.or_true, Bool.or_false, go_sem, ↓reduceIte, Nat.reduceEqDiff, Nat.reduceAdd, Nat.reduceLeDiff, Nat.reduceMul, Nat.reduceBEq, Nat.reduceBneDiff, Nat.reduceLT, Nat.reduceSub, Bool.false_eq_true, List.cons_append, List.nil_append, Int.ofNat_lt, Int.natCast_nonneg]
      refine callQ_self (ds := [eI n, .fn f4 [.pt (eS 1 (eS 1 eI) A.2[i]) 0]]) (by rfl) (hc3 n f4 _ (supR A.2[i]) (by omega) (fun x y hx hy => hc4 n A.2[i] x y sq hx hy)) ?_
      rw [show ((some false, tabL n fun x => (some false, tabL n ((supR A.2[i]) x))) : SL (SL Bool)) = rTab n (supR A.2[i]) from rfl, rD_eq]
      simp +contextual -implicitDefEqProofs only [at0, D.put, D.cells, D.size, D.sizeL, D.isAg, modeOf, noPtrs, List.length_map, eCo, eM, eS, eI, eB, D.sub, Int.cast_ofNat_Int, Int.reduceLT, Int.reduceLE, Int.le_refl, Int.reduceBEq, Int.reduceEq, beq_self_eq_true, Int.reduceToNat, bne, Bool.not_true, Bool.not_false, Bool.true_and, Bool.false_and, Bool.and_true, Bool.and_false, Bool.true_or, Bool.false_or, Bool.or_true, Bool.or_false, go_sem, ↓reduceIte, Nat.reduceEqDiff, Nat.reduceAdd, Nat.reduceLeDiff, Nat.reduceMul, Nat.reduceBEq, Nat.reduceBneDiff, Nat.reduceLT, Nat.reduceSub, Bool.false_eq_true, List.cons_append, List.nil_append, Int.ofNat_lt, Int.natCast_nonneg]
      have hsm := al
      refine ⟨rfl, ⟨by (try simp); omega, by unfold maxEl; (try simp); omega, by simp [D.size]⟩, i + 1, by omega, by omega, ?_⟩
      rw [wrap_i64 (by omega) (by omega)]
      exact Ent.to [8] (by simp only [go_sem, ↓reduceIte, Nat.reduceEqDiff, Nat.reduceBEq, Nat.reduceBneDiff, Bool.false_eq_true]; rfl) rfl (by simp [nnL_take hi, map_take hi, sTab]) (by rfl) (by simp only [subEnv, go_sem, ↓reduceIte, Nat.reduceEqDiff, Nat.reduceBEq, keep, memN, Bool.or_false, Bool.false_or, Bool.or_self, Bool.false_eq_true] <;> simp)
    · obtain rfl : i = A.2.length := by omega
      rw [List.take_length]
      simp +contextual -implicitDefEqProofs only [hi, at0, D.put, D.cells, D.size, D.sizeL, D.isAg, modeOf, noPtrs, List.length_map, eCo, eM, eS, eI, eB, D.sub, Int.cast_ofNat_Int, Int.reduceLT, Int.reduceLE, Int.le_refl, Int.reduceBEq, Int.reduceEq, beq_self_eq_true, Int.reduceToNat, bne, Bool.not_true, Bool.not_false, Bool.true_and, Bool.false_and, Bool.and_true, Bool.and_false, Bool.true_or, Bool.false_or, Bool.or_true, Bool.or_false, go_sem, ↓reduceIte, Nat.reduceEqDiff, Nat.reduceAdd, Nat.reduceLeDiff, Nat.reduceMul, Nat.reduceBEq, Nat.reduceBneDiff, Nat.reduceLT, Nat.reduceSub, Bool.false_eq_true, List.cons_append, List.nil_append, Int.ofNat_lt, Int.natCast_nonneg]
      exact D.Le.of_eq hS.symm
end Go.Ax
