/- Contracts of functions of the seat, proved over the engine. No condition. -/
import Derived.Test.YtjnghfepojipiaaX104
import Derived.Test.YtjnghfepojipiaaX50
set_option linter.unusedSimpArgs false
set_option linter.unusedVariables false
set_option linter.unnecessarySimpa false
namespace Go.Ax
set_option linter.unusedSimpArgs false
set_option maxRecDepth 20000
set_option maxHeartbeats 4000000
def bSt (F : Int → Int → Bool × Int × Int) : Nat → Int × Int
 | 0 => (0, 0)
 | x + 1 => (F (bSt F x).1 (bSt F x).2).2
def bF (F : Int → Int → Bool × Int × Int) (x : Nat) : Bool := (F (bSt F x).1 (bSt F x).2).1
theorem bSt_bd {P : Program} {f2 : Nat} {nn : Option Bool} {c : List Int} {F : Int → Int → Bool × Int × Int} (hF : OneS P f2 nn c F) : ∀ x : Nat, x ≤ 1000 → 0 ≤ (bSt F x).1 ∧ (bSt F x).1 ≤ 2 * x
 | 0, _ => by simp [bSt]
 | x + 1, h => by
  obtain ⟨i1, i2⟩ := bSt_bd hF x (by omega)
  obtain ⟨p1, p2, _⟩ := hF (bSt F x).1 (bSt F x).2 (by omega) (by omega)
  simp only [bSt]; push_cast
  exact ⟨by omega, by omega⟩
theorem imL_mem {f : Nat → Bool} {n : Nat} {v : Int} : v ∈ imL f n ↔ ∃ i : Nat, i < n ∧ f i = true ∧ (i : Int) = v := by
 simp only [imL, List.mem_map, List.mem_filter, List.mem_range]
 constructor
 ·rintro ⟨i, ⟨h1, h2⟩, h3⟩; exact ⟨i, h1, h2, h3⟩
 ·rintro ⟨i, h1, h2, h3⟩; exact ⟨i, ⟨h1, h2⟩, h3⟩
theorem hasI_iff {l : List Int} {v : Int} : hasI l v = true ↔ v ∈ l := by
 simp only [hasI, List.any_eq_true, beq_iff_eq]
 constructor
 ·rintro ⟨x, h, rfl⟩; exact h
 ·intro h; exact ⟨v, h, rfl⟩

def k_p6Model (f1 f2 : Nat) : RC := (.seq (.reg false [⟨none, .box 3 2 (.t 1)⟩, ⟨none, .zer 4 5 (.ag [(.sc (.int .i64 0)), (.sc (.int .i64 0)), (.sc (.int .i64 0)), (.ls (some true) 1 []), (.ls (some true) 1 [])])⟩]) ((.seq (.reg true [⟨none, .mv 5 (.t 0)⟩, ⟨none, .call (some 6) f1 [(.t 5)]⟩, ⟨none, .ld 7 true 2 (.t 3)⟩, ⟨none, .wcl (some 8) f2 [(.t 6), (.t 7), (.c (.sc (.int .i64 4)))]⟩, ⟨none, .st 5 (.t 4) (.t 8)⟩]) (.ret))))
def K_p6Model (P : Program) (fno : Nat) : Prop := ∀ (nn : Option Bool) (c : List Int) (g : Int × Int), srcOk c → okG g = true → ∃ mo, mo.1 = g ∧ okMo mo = true ∧ mo.2.1 ≤ 4 ∧ 1 ≤ mo.2.1 ∧ AF P fno [.ls nn 1 (c.map eU), eG g] (.own (eM mo))
theorem a_p6Model {P : Program} (hm : P.follows .mixedOrders = true) {g f1 f2 : Nat} (hr : resF P g = some (9, k_p6Model f1 f2, [.c 4 5 true])) (hc1 : K_l00From P f1) (hc2 : K_l05Draw P f2) : K_p6Model P g := by
 intro nn c g hc hg
 obtain ⟨a1, sd1, mo, s1, s2, s3, s4, s5, s6, hE⟩ := hc2 nn c 0 0 g 4 hc hg (by omega) (by omega) (by omega) (by omega)
 refine ⟨mo, s3, s4, s5, s6, ?_⟩
 refine af_of_res hr hm rfl fun hb => ?_
 simp +contextual -implicitDefEqProofs only [k_p6Model, eI, eG, eM, eS, D.size, D.sizeL, bne, Bool.not_false, Bool.and_true, go_sem, ↓reduceIte, Nat.reduceEqDiff, Nat.reduceAdd, Nat.reduceBEq, Nat.reduceLT]
 refine callQ_self ?_ (hc1 nn c) ?_
 ·exact rfl
 simp +contextual -implicitDefEqProofs only [srcD, D.size, D.sizeL, D.isAg, D.sub, bne, Bool.not_false, Bool.and_true, go_sem, ↓reduceIte, Nat.reduceEqDiff, Nat.reduceAdd, Nat.reduceLeDiff, Nat.reduceBEq]
 refine wcl_self [6] [] (by rfl) (by rfl) (by rfl) hE rfl (by simp [wOut, outU, uS, srcD, noPtrs, D.noPtr, shWL, AV.shW, posW, shUs, U.shW, St.unit, lu]) ?_
 simp +contextual -implicitDefEqProofs only [uS, srcD, eI, eM, eS, D.put, D.size, D.sizeL, D.isAg, D.sub, modeOf, noPtrs, bne, Bool.not_false, Bool.true_and, Bool.and_true, Bool.and_false, Bool.or_false, go_sem, ↓reduceIte, Nat.reduceEqDiff, Nat.reduceAdd, Nat.reduceLeDiff, Nat.reduceBEq, Nat.reduceLT]
theorem imL_asc {f : Nat → Bool} : ∀ {n : Nat}, asc (imL f n) = true := by
 intro n
 have hp : (imL f n).Pairwise (· < ·) := by
  unfold imL
  rw [List.pairwise_map]
  exact (List.pairwise_lt_range.filter f).imp fun h => by omega
 rw [List.pairwise_iff_getElem] at hp
 simp only [asc, ascI, List.all_eq_true, List.mem_range, decide_eq_true_eq]
 intro i hi
 have h := hp i (i + 1) (by omega) (by omega) (by omega)
 rw [getD_at (by omega), getD_at (by omega)]
 exact h

def k_p6Points (f1 f2 : Nat) : RC := (.seq (.reg false [⟨none, .box 3 5 (.t 1)⟩, ⟨none, .mv 4 (.c (.ls (some true) 1 []))⟩]) ((.seq (.reg false [⟨none, .mv 8 (.t 0)⟩, ⟨none, .call (some 9) f1 [(.t 8)]⟩, ⟨none, .mv 5 (.t 9)⟩]) ((.seq (.reg false [⟨none, .bs 10 1 (.sc (.int .i64 0)) 0 []⟩, ⟨none, .mv 6 (.t 10)⟩]) ((.seq ((.seq (.reg false [⟨none, .mv 7 (.c (.sc (.int .i64 0)))⟩]) (.blk 0 (.loop ((.seq ((.seq (.reg false [⟨none, .mv 11 (.t 7)⟩, ⟨none, .fa 12 2 (.t 3)⟩, ⟨none, .ld 13 false 1 (.t 12)⟩, ⟨none, .bin 14 .lss (.t 11) (.t 13)⟩]) (.cond (.t 14) (.skip) (.exit 0)))) ((.seq (.blk 1 ((.seq (.reg false [⟨none, .mv 17 (.t 5)⟩, ⟨none, .wcl (some 18) f2 [(.t 17), (.c (.sc (.int .i64 2)))]⟩]) (.cond (.t 18) (.reg false [⟨none, .mv 19 (.t 6)⟩, ⟨none, .mv 20 (.t 7)⟩, ⟨none, .bs 21 1 (.sc (.int .i64 0)) 1 [(0, (.t 20))]⟩, ⟨none, .app 22 1 8 (.t 19) (.t 21)⟩, ⟨none, .mv 6 (.t 22)⟩]) (.skip))))) (.reg false [⟨none, .mv 15 (.t 7)⟩, ⟨none, .bin 16 .add (.t 15) (.c (.sc (.int .i64 1)))⟩, ⟨none, .mv 7 (.t 16)⟩]))))))))) ((.seq (.reg false [⟨none, .mv 23 (.t 6)⟩, ⟨none, .mv 4 (.t 23)⟩]) (.ret))))))))))
def K_p6Points (P : Program) (fno : Nat) : Prop := ∀ (nn : Option Bool) (c : List Int) (m : Mo) (n : Nat), srcOk c → m.2.1 = n → n ≤ 8 → ∃ s : List Int, isSetB n s = true ∧ AF P fno [.ls nn 1 (c.map eU), eM m] (.own (eS 1 eI (some false, s)))
theorem a_p6Points {P : Program} (hm : P.follows .mixedOrders = true) {g f1 f2 : Nat} (hr : resF P g = some (24, k_p6Points f1 f2, [.t 4])) (hc1 : K_l00From P f1) (hc2 : K_srcOne P f2) : K_p6Points P g := by
 intro nn c m n hc hn hn8
 obtain ⟨F, hF⟩ := one_fun hc2 nn hc
 refine ⟨imL (bF F) n, ?_, ?_⟩
 ·have hlt : ∀ n, ∀ x ∈ imL (bF F) n, 0 ≤ x ∧ x < n := fun n x hx => by
   obtain ⟨i, h1, _, rfl⟩ := imL_mem.1 hx
   omega
  simp only [isSetB, Bool.and_eq_true]
  constructor
  ·exact imL_asc
  ·simp only [allIn, List.all_eq_true]
   intro x hx
   have := hlt n x hx
   simp [isIn]; omega
 obtain ⟨⟨g1, g2⟩, p, T, A⟩ := m
 simp only at hn
 subst hn
 refine af_of_res hr hm rfl fun hb => ?_
 simp +contextual -implicitDefEqProofs only [k_p6Points, eI, eM, eS, D.size, D.sizeL, Bool.and_true, go_sem, ↓reduceIte, Nat.reduceEqDiff, Nat.reduceAdd, Nat.reduceLT]
 refine callQ_self ?_ (hc1 nn c) ?_
 ·exact rfl
 simp +contextual -implicitDefEqProofs only [srcD, D.size, D.sizeL, bne, Bool.not_false, Bool.and_true, go_sem, ↓reduceIte, Nat.reduceAdd, Nat.reduceBEq, Nat.reduceLT]
 refine vc_onU (α := Nat) [6, 7, 10, 11, 12, 13, 14, 15, 16, 17, 18, 19, 20, 21, 22] (fun x => [(7, .im none (.sc (.int .i64 x))), (6, .sm 10 0 (imL (bF F) x).length)]) (fun x => [(10, .ar true (some false) 1 (iD (imL (bF F) x))), (9, .ar false (some false) 3 [.ag [.ls nn 1 (c.map eU), .sc (.int .i64 (bSt F x).1), .sc (.int .u64 (bSt F x).2)]]), (3, .ar false (some false) 5 [.ag [.sc (.int .i64 g1), .sc (.int .i64 g2), .sc (.int .i64 n), .ls T.1 1 (T.2.map (eS 1 eB)), .ls A.1 1 (A.2.map (eS 1 (eS 1 eB)))]])]) (fun x => x ≤ n) (fun x => n - x) 0 (Ent.to [] (by simp only [go_sem]; rfl) rfl (by simp [imL_zero, iD_nil, bSt]) (by rfl) (by simp only [subEnv, go_sem, ↓reduceIte, Nat.reduceEqDiff, keep, memN] <;> simp [imL_zero])) (Nat.zero_le _) ?_
 intro x hx0
 obtain ⟨q1, q2⟩ := bSt_bd hF x (by omega)
 have hbd := @imL_len (bF F) x
 by_cases hx : x < n
 ·have hO := (hF (bSt F x).1 (bSt F x).2 (by omega) (by omega)).2.2
  rw [show (F (bSt F x).1 (bSt F x).2).1 = bF F x from rfl] at hO
  simp +contextual -implicitDefEqProofs only [hx, Int.ofNat_lt, D.isAg, D.sub, go_sem, ↓reduceIte, Nat.reduceEqDiff, Nat.reduceAdd, Nat.reduceLeDiff, Nat.reduceLT]
  refine wcl_self [9] [] (by rfl) (by rfl) (by rfl) hO rfl (by simp [wOut, outU, uS, srcD, noPtrs, D.noPtr, shWL, AV.shW, posW, shUs, U.shW, St.unit, lu]) ?_
  cases hv : bF F x
  ·simp +contextual -implicitDefEqProofs only [uS, srcD, eB, Bool.or_false, go_sem, ↓reduceIte, Nat.reduceEqDiff, Nat.reduceBEq]
   rw [wrap_i64 (by omega) (by omega)]
   exact ⟨x + 1, by omega, by omega, Ent.to [] (by simp only [go_sem]; rfl) rfl (by simp [imL_f hv, bSt]) (by rfl) (by simp only [subEnv, go_sem, ↓reduceIte, Nat.reduceEqDiff] <;> simp [imL_f hv])⟩
  ·simp +contextual -implicitDefEqProofs only [uS, srcD, eB, iD_len, D.size, modeOf, noPtrs, bne, Bool.not_false, Bool.and_true, Bool.or_true, Bool.or_false, go_sem, ↓reduceIte, Nat.reduceEqDiff, Nat.reduceLeDiff, Nat.reduceMul, Nat.reduceBEq, Nat.reduceLT]
   refine ⟨rfl, ⟨by (try simp); omega, by unfold maxEl; (try simp); omega, by simp [D.size]⟩, x + 1, by omega, by omega, ?_⟩
   rw [wrap_i64 (by omega) (by omega)]
   exact Ent.to [] (by simp only [go_sem]; rfl) rfl (by simp [imL_t hv, iD_app, bSt]) (by rfl) (by simp only [subEnv, go_sem, ↓reduceIte, Nat.reduceEqDiff] <;> simp [imL_t hv])
 ·obtain rfl : n = x := by omega
  simp +contextual -implicitDefEqProofs only [hx, Int.ofNat_lt, iD_len, D.isAg, D.sub, go_sem, ↓reduceIte, Nat.reduceEqDiff, Nat.reduceAdd, Nat.reduceLeDiff, Nat.reduceBEq, Nat.reduceLT]
  exact D.Le.refl _
theorem take_getD {α : Type} {l : List α} {i : Nat} {d : α} (h : i < l.length) : l.take (i + 1) = l.take i ++ [l.getD i d] := by
 rw [List.take_succ_eq_append_getElem h]; simp [h]

def k_f6ints : RC := (.seq (.reg false [⟨none, .mv 4 (.c (.sc (.bool false)))⟩]) ((.seq ((.seq (.reg false [⟨none, .mv 6 (.t 0)⟩, ⟨none, .len 7 (.t 6)⟩, ⟨none, .mv 8 (.t 1)⟩, ⟨none, .len 9 (.t 8)⟩, ⟨none, .bin 10 .neq (.t 7) (.t 9)⟩]) (.cond (.t 10) ((.seq (.reg false [⟨none, .mv 4 (.c (.sc (.bool false)))⟩]) (.ret))) (.skip)))) ((.seq ((.seq (.reg false [⟨none, .mv 5 (.c (.sc (.int .i64 0)))⟩]) (.blk 0 (.loop ((.seq ((.seq (.reg false [⟨none, .mv 11 (.t 5)⟩, ⟨none, .mv 12 (.t 0)⟩, ⟨none, .len 13 (.t 12)⟩, ⟨none, .bin 14 .lss (.t 11) (.t 13)⟩]) (.cond (.t 14) (.skip) (.exit 0)))) ((.seq (.blk 1 ((.seq (.reg true [⟨none, .mv 17 (.t 0)⟩, ⟨none, .mv 18 (.t 5)⟩, ⟨none, .ia 19 1 (.t 17) (.t 18)⟩, ⟨none, .ld 20 false 1 (.t 19)⟩, ⟨none, .mv 21 (.t 1)⟩, ⟨none, .mv 22 (.t 5)⟩, ⟨none, .ia 23 1 (.t 21) (.t 22)⟩, ⟨none, .ld 24 false 1 (.t 23)⟩, ⟨none, .bin 25 .neq (.t 20) (.t 24)⟩]) (.cond (.t 25) ((.seq (.reg false [⟨none, .mv 4 (.c (.sc (.bool false)))⟩]) (.ret))) (.skip))))) (.reg false [⟨none, .mv 15 (.t 5)⟩, ⟨none, .bin 16 .add (.t 15) (.c (.sc (.int .i64 1)))⟩, ⟨none, .mv 5 (.t 16)⟩]))))))))) ((.seq (.reg false [⟨none, .mv 4 (.c (.sc (.bool true)))⟩]) (.ret))))))))
def K_f6ints (P : Program) (fno : Nat) : Prop := ∀ (a b : SL Int), AF P fno [eS 1 eI a, eS 1 eI b] (.own (eB (decide (a.2 = b.2))))
theorem a_f6ints {P : Program} (hm : P.follows .mixedOrders = true) {g : Nat} (hr : resF P g = some (26, k_f6ints, [.t 4])) : K_f6ints P g := by
 intro a b
 refine af_of_res hr hm rfl fun hb => ?_
 have hl := bd_ls hb.1
 simp only [List.length_map] at hl
 by_cases hlen : a.2.length = b.2.length
 case neg =>
  rw [show (decide (a.2 = b.2)) = false from decide_eq_false fun h => hlen (congrArg List.length h)]
  have h1 : ((a.2.length : Int) == (b.2.length : Int)) = false := by simp; omega
  simp +contextual -implicitDefEqProofs only [k_f6ints, eS, h1, bne, Bool.not_false, List.length_map, go_sem, eB, ↓reduceIte, Nat.reduceEqDiff, Nat.reduceAdd]
 have h1 : ((a.2.length : Int) == (b.2.length : Int)) = true := by simp; omega
 simp +contextual -implicitDefEqProofs only [k_f6ints, eS, eB, h1, bne, Bool.not_true, List.length_map, go_sem, ↓reduceIte, Nat.reduceEqDiff, Nat.reduceAdd]
 refine vc_onU (α := Nat) [4, 5, 11, 12, 13, 14, 15, 16, 17, 18, 19, 20, 21, 22, 23, 24, 25] (fun i => [(5, .im none (.sc (.int .i64 i)))]) (fun i => []) (fun i => i ≤ a.2.length ∧ a.2.take i = b.2.take i) (fun i => a.2.length - i) 0 (Ent.to [] (by simp only [go_sem]; rfl) rfl (by simp) (by rfl) (by simp only [subEnv, go_sem, ↓reduceIte, Nat.reduceEqDiff, keep, memN] <;> simp)) ⟨Nat.zero_le _, rfl⟩ ?_
 rintro i ⟨hi0, hi1⟩
 by_cases hi : i < a.2.length
 ·have e1 := at_mapD (f := eI) (d := 0) hi
  have hi2 : i < b.2.length := by omega
  have e2 := at_mapD (f := eI) (d := 0) hi2
  by_cases hp : a.2.getD i 0 = b.2.getD i 0
  ·have hp' : (a.2.getD i 0 == b.2.getD i 0) = true := by simpa using hp
   simp +contextual -implicitDefEqProofs only [hi, hi2, e1, e2, eI, Int.toNat_natCast, hp', bne, Bool.not_true, Int.ofNat_lt, List.length_map, go_sem, ↓reduceIte, Nat.reduceEqDiff, Nat.reduceLeDiff, Nat.reduceLT, Int.natCast_nonneg]
   rw [wrap_i64 (by omega) (by omega)]
   exact ⟨i + 1, ⟨by omega, by rw [take_getD (d := 0) hi, take_getD (d := 0) hi2, hi1, hp]⟩, by omega, Ent.to [] (by simp only [go_sem]; rfl) rfl (by simp) (by rfl) (by simp only [subEnv, go_sem, ↓reduceIte, Nat.reduceEqDiff] <;> simp)⟩
  ·have hp' : (a.2.getD i 0 == b.2.getD i 0) = false := by simpa using hp
   rw [show (decide (a.2 = b.2)) = false from decide_eq_false fun h => hp (by rw [h])]
   simp +contextual -implicitDefEqProofs only [hi, hi2, e1, e2, eI, Int.toNat_natCast, hp', bne, Bool.not_false, Int.ofNat_lt, List.length_map, go_sem, ↓reduceIte, Nat.reduceEqDiff, Nat.reduceLeDiff, Nat.reduceLT, Int.natCast_nonneg]
 ·obtain rfl : i = a.2.length := by omega
  rw [List.take_length, hlen, List.take_length] at hi1
  rw [show (decide (a.2 = b.2)) = true from decide_eq_true hi1]
  simp +contextual -implicitDefEqProofs only [hi, Int.ofNat_lt, List.length_map, go_sem, ↓reduceIte, Nat.reduceEqDiff]
theorem all_take {α : Type} {p : α → Bool} {l : List α} {i : Nat} {d : α} (h : i < l.length) : (l.take (i + 1)).all p = ((l.take i).all p && p (l.getD i d)) := by
 rw [take_getD (d := d) h, List.all_append]; simp
theorem all_false {α : Type} {p : α → Bool} {l : List α} {i : Nat} (h : (l.take i).all p = false) : l.all p = false := by
 rw [← List.take_append_drop i l, List.all_append, h, Bool.false_and]

def hasT (l : List Int) (v : Int) (j : Nat) : Bool := (l.take j).any fun x => v == x
theorem hasT_succ {l : List Int} {v : Int} {i : Nat} (h : i < l.length) : hasT l v (i + 1) = (hasT l v i || v == l.getD i 0) := any_take (p := fun x => v == x) h
theorem hasT_full {l : List Int} {v : Int} : hasT l v l.length = hasI l v := by unfold hasT hasI; rw [List.take_length]
theorem hasT_zero {l : List Int} {v : Int} : hasT l v 0 = false := rfl

def k_f6subset : RC := (.seq (.reg false [⟨none, .mv 4 (.c (.sc (.bool false)))⟩]) ((.seq ((.seq (.reg false [⟨none, .mv 5 (.c (.sc (.int .i64 0)))⟩]) (.blk 0 (.loop ((.seq ((.seq (.reg false [⟨none, .mv 8 (.t 5)⟩, ⟨none, .mv 9 (.t 0)⟩, ⟨none, .len 10 (.t 9)⟩, ⟨none, .bin 11 .lss (.t 8) (.t 10)⟩]) (.cond (.t 11) (.skip) (.exit 0)))) ((.seq (.blk 1 ((.seq (.reg false [⟨none, .mv 6 (.c (.sc (.bool false)))⟩]) ((.seq ((.seq (.reg false [⟨none, .mv 7 (.c (.sc (.int .i64 0)))⟩]) (.blk 2 (.loop ((.seq ((.seq (.reg false [⟨none, .mv 14 (.t 7)⟩, ⟨none, .mv 15 (.t 1)⟩, ⟨none, .len 16 (.t 15)⟩, ⟨none, .bin 17 .lss (.t 14) (.t 16)⟩]) (.cond (.t 17) (.skip) (.exit 2)))) ((.seq (.blk 3 (.reg true [⟨none, .mv 20 (.t 6)⟩, ⟨none, .mv 21 (.t 20)⟩, ⟨some (21, false), .mv 22 (.t 0)⟩, ⟨some (21, false), .mv 23 (.t 5)⟩, ⟨some (21, false), .ia 24 1 (.t 22) (.t 23)⟩, ⟨some (21, false), .ld 25 false 1 (.t 24)⟩, ⟨some (21, false), .mv 26 (.t 1)⟩, ⟨some (21, false), .mv 27 (.t 7)⟩, ⟨some (21, false), .ia 28 1 (.t 26) (.t 27)⟩, ⟨some (21, false), .ld 29 false 1 (.t 28)⟩, ⟨some (21, false), .bin 30 .eql (.t 25) (.t 29)⟩, ⟨none, .pick 31 (.t 21) (.c (.sc (.bool true))) (.t 30)⟩, ⟨none, .mv 6 (.t 31)⟩])) (.reg false [⟨none, .mv 18 (.t 7)⟩, ⟨none, .bin 19 .add (.t 18) (.c (.sc (.int .i64 1)))⟩, ⟨none, .mv 7 (.t 19)⟩]))))))))) ((.seq (.reg false [⟨none, .mv 32 (.t 6)⟩, ⟨none, .un 33 .not (.t 32)⟩]) (.cond (.t 33) ((.seq (.reg false [⟨none, .mv 4 (.c (.sc (.bool false)))⟩]) (.ret))) (.skip))))))))) (.reg false [⟨none, .mv 12 (.t 5)⟩, ⟨none, .bin 13 .add (.t 12) (.c (.sc (.int .i64 1)))⟩, ⟨none, .mv 5 (.t 13)⟩]))))))))) ((.seq (.reg false [⟨none, .mv 4 (.c (.sc (.bool true)))⟩]) (.ret))))))
def K_f6subset (P : Program) (fno : Nat) : Prop := ∀ (a b : SL Int), AF P fno [eS 1 eI a, eS 1 eI b] (.own (eB (a.2.all fun x => hasI b.2 x)))
theorem a_f6subset {P : Program} (hm : P.follows .mixedOrders = true) {g : Nat} (hr : resF P g = some (34, k_f6subset, [.t 4])) : K_f6subset P g := by
 intro a b
 refine af_of_res hr hm rfl fun hb => ?_
 have hl := bd_ls hb.1
 have hl2 := bd_ls hb.2.1
 simp only [List.length_map] at hl hl2
 simp +contextual -implicitDefEqProofs only [k_f6subset, eS, eB, go_sem, ↓reduceIte, Nat.reduceAdd]
 refine vc_onU (α := Nat) [4, 5, 6, 7, 8, 9, 10, 11, 12, 13, 14, 15, 16, 17, 18, 19, 20, 21, 22, 23, 24, 25, 26, 27, 28, 29, 30, 31, 32, 33] (fun i => [(5, .im none (.sc (.int .i64 i)))]) (fun i => []) (fun i => i ≤ a.2.length ∧ (a.2.take i).all (fun x => hasI b.2 x) = true) (fun i => a.2.length - i) 0 (Ent.to [] (by simp only [go_sem]; rfl) rfl (by simp) (by rfl) (by simp only [subEnv, go_sem, ↓reduceIte, Nat.reduceEqDiff, keep, memN] <;> simp)) ⟨Nat.zero_le _, rfl⟩ ?_
 rintro i ⟨hi0, hi1⟩
 by_cases hi : i < a.2.length
 ·have e1 := at_mapD (f := eI) (d := 0) hi
  have e2 := all_take (p := fun x => hasI b.2 x) (d := 0) hi
  rw [hi1, Bool.true_and] at e2
  generalize a.2.getD i 0 = v at *
  simp +contextual -implicitDefEqProofs only [hi, Int.ofNat_lt, List.length_map, go_sem, ↓reduceIte, Nat.reduceEqDiff]
  refine vc_onU (α := Nat) [6, 7, 14, 15, 16, 17, 18, 19, 20, 21, 22, 23, 24, 25, 26, 27, 28, 29, 30, 31] (fun j => [(7, .im none (.sc (.int .i64 j))), (6, .im none (.sc (.bool (hasT b.2 v j))))]) (fun j => []) (fun j => j ≤ b.2.length) (fun j => b.2.length - j) 0 (Ent.to [] (by simp only [go_sem]; rfl) rfl (by simp) (by rfl) (by simp only [subEnv, go_sem, ↓reduceIte, Nat.reduceEqDiff, keep, memN] <;> simp [hasT_zero])) (Nat.zero_le _) ?_
  intro j hj0
  by_cases hj : j < b.2.length
  ·have e3 := at_mapD (f := eI) (d := 0) hj
   have e4 := hasT_succ (l := b.2) (v := v) hj
   cases hv : hasT b.2 v j
   ·rw [hv, Bool.false_or] at e4
    simp +contextual -implicitDefEqProofs only [hi, hj, e1, e3, eI, Int.toNat_natCast, Int.ofNat_lt, List.length_map, go_sem, ↓reduceIte, Nat.reduceEqDiff, Nat.reduceLeDiff, Nat.reduceLT, Int.natCast_nonneg]
    rw [wrap_i64 (by omega) (by omega), ← e4]
    exact ⟨j + 1, by omega, by omega, Ent.to [] (by simp only [go_sem]; rfl) rfl (by simp) (by rfl) (by simp only [subEnv, go_sem, ↓reduceIte, Nat.reduceEqDiff] <;> simp)⟩
   ·rw [hv, Bool.true_or] at e4
    simp +contextual -implicitDefEqProofs only [hj, Int.ofNat_lt, List.length_map, go_sem, ↓reduceIte, Nat.reduceEqDiff]
    rw [wrap_i64 (by omega) (by omega)]
    exact ⟨j + 1, by omega, by omega, Ent.to [] (by simp only [go_sem]; rfl) rfl (by simp) (by rfl) (by simp only [subEnv, go_sem, ↓reduceIte, Nat.reduceEqDiff] <;> simp [e4])⟩
  ·obtain rfl : j = b.2.length := by omega
   rw [hasT_full]
   cases hv : hasI b.2 v
   ·rw [all_false (e2.trans hv)]
    simp +contextual -implicitDefEqProofs only [hj, Bool.not_false, Int.ofNat_lt, List.length_map, go_sem, ↓reduceIte, Nat.reduceEqDiff]
   ·simp +contextual -implicitDefEqProofs only [hj, Bool.not_true, Int.ofNat_lt, List.length_map, go_sem, ↓reduceIte, Nat.reduceEqDiff]
    rw [wrap_i64 (by omega) (by omega)]
    exact ⟨i + 1, ⟨by omega, e2.trans hv⟩, by omega, Ent.to [] (by simp only [go_sem]; rfl) rfl (by simp) (by rfl) (by simp only [subEnv, go_sem, ↓reduceIte, Nat.reduceEqDiff] <;> simp)⟩
 ·obtain rfl : i = a.2.length := by omega
  rw [List.take_length] at hi1
  rw [hi1]
  simp +contextual -implicitDefEqProofs only [hi, Int.ofNat_lt, List.length_map, go_sem, ↓reduceIte, Nat.reduceEqDiff]
end Go.Ax
