/- Contracts of functions of the seat, proved over the engine. No condition. -/
import Derived.Test.YthcgldjelbmjgaaX59
set_option linter.unusedSimpArgs false
set_option linter.unusedVariables false
set_option linter.unnecessarySimpa false
namespace Go.Ax
set_option linter.unusedSimpArgs false
set_option maxRecDepth 20000
set_option maxHeartbeats 4000000
def joinR (n1 : Nat) (A B : Rel) : Rel := fun x y => if x < n1 then (decide (y < n1) && A x y) else (decide (n1 ≤ y) && B (x - n1) (y - n1))
def nnN : Nat → Option Bool
  | 0 => some true
  | _ + 1 => some false
abbrev rw_ (T : List (SL Bool)) (k : Nat) : List Bool := (T.getD k (none, [])).2
abbrev tb_ (A : List (SL (SL Bool))) (k : Nat) : Rel := relOf (A.getD k (none, []))
def jRow (T1 T2 : List (SL Bool)) (k : Nat) : D := .ls (some false) 1 ((rw_ T1 k).map eB ++ (rw_ T2 k).map eB)
def jTab (n1 n : Nat) (A1 A2 : List (SL (SL Bool))) (k : Nat) : D := .ls (some false) 1 (rD n (joinR n1 (tb_ A1 k) (tb_ A2 k)))
def joinMo (g : Int × Int) (n1 n : Nat) (T1 T2 : List (SL Bool)) (A1 A2 : List (SL (SL Bool))) : Mo :=
  (g, (n : Int), (nnN T1.length, tabL T1.length fun k => (some false, rw_ T1 k ++ rw_ T2 k)), (nnN A1.length, tabL A1.length fun k => rTab n (joinR n1 (tb_ A1 k) (tb_ A2 k))))
def joinS (a b : Mo) : Mo × Int :=
  if okMo a = false then (zeroMo, 1) else if okMo b = false then (zeroMo, 1) else
  if (a.1.1 == b.1.1 && a.1.2 == b.1.2) = false then (zeroMo, 2) else if decide (a.2.1 + b.2.1 > 8) = true then (zeroMo, 3) else
  (joinMo a.1 a.2.1.toNat (a.2.1.toNat + b.2.1.toNat) a.2.2.1.2 b.2.2.1.2 a.2.2.2.2 b.2.2.2.2, 0)
theorem join_eq {g : Int × Int} {n1 n : Nat} {T1 T2 : List (SL Bool)} {A1 A2 : List (SL (SL Bool))} : eM (joinMo g n1 n T1 T2 A1 A2) = .ag [.sc (.int .i64 g.1), .sc (.int .i64 g.2), .sc (.int .i64 n), .ls (nnN T1.length) 1 (tabL T1.length (jRow T1 T2)), .ls (nnN A1.length) 1 (tabL A1.length (jTab n1 n A1 A2))] := by
  simp only [eM, joinMo, eI, eG]
  unfold jTab jRow
  simp only [eS, rTab, rD, rRow, tabL_map, List.map_append, eB]
theorem tabL_at0 {α : Type} {g : Nat → α} : tabL 0 g = [] := rfl

def jR1 (n1 : Nat) (A : Rel) (i : Nat) : Rel := fun x y => decide (x < i) && (decide (y < n1) && A x y)
def jR2 (n1 : Nat) (A B : Rel) (i : Nat) : Rel := fun x y => if x < n1 then (decide (y < n1) && A x y) else (decide (x < n1 + i) && (decide (n1 ≤ y) && B (x - n1) (y - n1)))
theorem jR1_zero {n1 : Nat} {A : Rel} : (fun _ _ => false : Rel) = jR1 n1 A 0 := by
  funext x y; simp [jR1]
theorem jR2_zero {n1 : Nat} {A B : Rel} : jR1 n1 A n1 = jR2 n1 A B 0 := by
  funext x y
  unfold jR1 jR2
  by_cases h : x < n1 <;> simp [h]
theorem jR1_z {n1 : Nat} {A : Rel} : jR1 n1 A 0 = fun _ _ => false := jR1_zero.symm
theorem jR2_z {n1 : Nat} {A B : Rel} : jR2 n1 A B 0 = jR1 n1 A n1 := jR2_zero.symm
theorem jR2_full {n1 n2 : Nat} {A B : Rel} : rD (n1 + n2) (jR2 n1 A B n2) = rD (n1 + n2) (joinR n1 A B) := rD_congr fun x y hx hy => by
  unfold jR2 joinR
  simp [hx]
theorem jR1_step {n1 n i : Nat} {A : Rel} (hn : n1 ≤ n) : (rD n (jR1 n1 A i)).set i (.ls (some false) 1 (spl (rRow n (jR1 n1 A i i)) 0 n1 (rRow n1 (A i)))) = rD n (jR1 n1 A (i + 1)) := by
  have h : spl (rRow n (jR1 n1 A i i)) 0 n1 (rRow n1 (A i)) = rRow n fun y => decide (y < n1) && A i y := by
    unfold spl rRow tabL
    apply List.ext_getElem
    · simp; omega
    · intro k h1 h2
      by_cases hk : k < n1
      · simp [hk]
      · simp [hk, jR1, List.getElem_append]
  rw [h, rD_row]
  refine rD_cast ?_
  funext x y
  by_cases hx : x = i
  · subst hx; simp [setRow, jR1]
  · simp only [setRow, jR1, hx, if_false]
    congr 1
    rw [decide_eq_decide]; omega
theorem jR2_step {n1 n2 i : Nat} {A B : Rel} : (rD (n1 + n2) (jR2 n1 A B i)).set (n1 + i) (.ls (some false) 1 (spl (rRow (n1 + n2) (jR2 n1 A B i (n1 + i))) n1 n2 (rRow n2 (B i)))) = rD (n1 + n2) (jR2 n1 A B (i + 1)) := by
  have h : spl (rRow (n1 + n2) (jR2 n1 A B i (n1 + i))) n1 n2 (rRow n2 (B i)) = rRow (n1 + n2) fun y => decide (n1 ≤ y) && B i (y - n1) := by
    unfold spl rRow tabL
    apply List.ext_getElem
    · simp
    · intro k h1 h2
      simp only [List.length_map, List.length_range] at h2
      by_cases hk : k < n1
      · have : ¬ n1 ≤ k := by omega
        have h9 : ¬ n1 + i < n1 := by omega
        simp [hk, jR2, List.getElem_append, this, h9]
      · have h3 : n1 ≤ k := by omega
        have h4 : k - n1 < n2 := by omega
        simp [hk, h3, h4, List.getElem_append]
  rw [h, rD_row]
  refine rD_cast ?_
  funext x y
  by_cases hx : x = n1 + i
  · have h9 : ¬ n1 + i < n1 := by omega
    subst hx; simp [setRow, jR2, h9]
  · simp only [setRow, jR2, hx, if_false]
    congr 2
    rw [decide_eq_decide]; omega
theorem ls_cons {T : List (SL Bool)} {n i : Nat} (h : ∀ r ∈ T, r.2.length = n) (h1 : 1 ≤ n) (hi : i < T.length) : ∃ b l, rw_ T i = b :: l ∧ l.length + 1 = n := by
  have : (rw_ T i).length = n := h _ (getD_mem (d := (none, [])) hi)
  cases hc : rw_ T i with
  | nil => rw [hc] at this; simp at this; omega
  | cons b l => rw [hc] at this; exact ⟨b, l, rfl, by simpa using this⟩

def k_joinModels1 : RC := (.seq (.reg false [⟨none, .mv 7 (.c (.sc (.bool false)))⟩]) ((.seq ((.seq (.reg false [⟨none, .mv 8 (.t 0)⟩, ⟨none, .fa 9 2 (.t 2)⟩, ⟨none, .ld 10 false 1 (.t 9)⟩, ⟨none, .bin 11 .lss (.t 8) (.t 10)⟩]) (.cond (.t 11) ((.seq (.reg false [⟨none, .mv 12 (.t 1)⟩, ⟨none, .fa 13 2 (.t 2)⟩, ⟨none, .ld 14 false 1 (.t 13)⟩, ⟨none, .bin 15 .lss (.t 12) (.t 14)⟩, ⟨none, .mv 16 (.t 15)⟩, ⟨some (16, true), .fa 17 4 (.t 2)⟩, ⟨some (16, true), .ld 18 false 1 (.t 17)⟩, ⟨some (16, true), .ld 19 false 1 (.t 3)⟩, ⟨some (16, true), .ia 20 1 (.t 18) (.t 19)⟩, ⟨some (16, true), .ld 21 false 1 (.t 20)⟩, ⟨some (16, true), .mv 22 (.t 0)⟩, ⟨some (16, true), .ia 23 1 (.t 21) (.t 22)⟩, ⟨some (16, true), .ld 24 false 1 (.t 23)⟩, ⟨some (16, true), .mv 25 (.t 1)⟩, ⟨some (16, true), .ia 26 1 (.t 24) (.t 25)⟩, ⟨some (16, true), .ld 27 false 1 (.t 26)⟩, ⟨none, .pick 28 (.t 16) (.t 27) (.c (.sc (.bool false)))⟩, ⟨none, .mv 7 (.t 28)⟩]) (.ret))) (.skip)))) ((.seq (.reg true [⟨none, .mv 29 (.t 1)⟩, ⟨none, .fa 30 2 (.t 2)⟩, ⟨none, .ld 31 false 1 (.t 30)⟩, ⟨none, .bin 32 .geq (.t 29) (.t 31)⟩, ⟨none, .mv 33 (.t 32)⟩, ⟨some (33, true), .fa 34 4 (.t 4)⟩, ⟨some (33, true), .ld 35 false 1 (.t 34)⟩, ⟨some (33, true), .ld 36 false 1 (.t 3)⟩, ⟨some (33, true), .ia 37 1 (.t 35) (.t 36)⟩, ⟨some (33, true), .ld 38 false 1 (.t 37)⟩, ⟨some (33, true), .mv 39 (.t 0)⟩, ⟨some (33, true), .fa 40 2 (.t 2)⟩, ⟨some (33, true), .ld 41 false 1 (.t 40)⟩, ⟨some (33, true), .bin 42 .sub (.t 39) (.t 41)⟩, ⟨some (33, true), .ia 43 1 (.t 38) (.t 42)⟩, ⟨some (33, true), .ld 44 false 1 (.t 43)⟩, ⟨some (33, true), .mv 45 (.t 1)⟩, ⟨some (33, true), .fa 46 2 (.t 2)⟩, ⟨some (33, true), .ld 47 false 1 (.t 46)⟩, ⟨some (33, true), .bin 48 .sub (.t 45) (.t 47)⟩, ⟨some (33, true), .ia 49 1 (.t 44) (.t 48)⟩, ⟨some (33, true), .ld 50 false 1 (.t 49)⟩, ⟨none, .pick 51 (.t 33) (.t 50) (.c (.sc (.bool false)))⟩, ⟨none, .mv 7 (.t 51)⟩]) (.ret))))))
def K_joinModels1 (P : Program) (fno : Nat) : Prop := ∀ (a b : Mo) (n1 n2 k x y : Nat) (ha : MoOk a n1) (hb2 : MoOk b n2) (hx : x < n1 + n2) (hy : y < n1 + n2) (hk1 : k < a.2.2.2.2.length) (hk2 : k < b.2.2.2.2.length), AF P fno [eI x, eI y, .pt (eM a) 0, .pt (eI k) 0, .pt (eM b) 0] (.own (eB (joinR n1 (tb_ a.2.2.2.2 k) (tb_ b.2.2.2.2 k) x y)))
theorem a_joinModels1 {P : Program} (hm : P.follows .mixedOrders = true) {g : Nat} (hr : resF P g = some (52, k_joinModels1, [.t 7])) : K_joinModels1 P g := by
  intro a b n1 n2 k x y ha hb2 hx hy hk1 hk2
  obtain ⟨ga, pa, Ta, Aa⟩ := a
  obtain ⟨gb, pb, Tb, Ab⟩ := b
  obtain rfl : pa = n1 := ha.pts
  obtain rfl : pb = n2 := hb2.pts
  have c1 := at_mapD (f := eS 1 (eS 1 eB)) (d := (none, [])) hk1
  have c2 := at_mapD (f := eS 1 (eS 1 eB)) (d := (none, [])) hk2
  have s1 : Sq n1 _ := ha.asq _ (getD_mem (d := (none, [])) hk1)
  have s2 : Sq n2 _ := hb2.asq _ (getD_mem (d := (none, [])) hk2)
  have n8a := ha.n8
  have n8b := hb2.n8
  simp only at hk1 hk2 c1 c2 s1 s2
  refine af_of_res hr hm rfl fun hb => ?_
  by_cases hx1 : x < n1
  · by_cases hy1 : y < n1
    · have b1 := s1.at hx1
      have b2 := s1.at2 hx1 hy1
      have b3 := s1.rows hx1
      have b4 := s1.len
      have hj : joinR n1 (tb_ Aa.2 k) (tb_ Ab.2 k) x y = relOf (Aa.2.getD k (none, [])) x y := by unfold joinR; rw [if_pos hx1, decide_eq_true hy1]; rfl
      simp +contextual -implicitDefEqProofs only [k_joinModels1, at0, c1, b1, b2, b3, b4, hk1, hx1, hy1, hj, List.length_map, eM, eG, eS, eI, eB, D.size, D.sizeL, D.sub, Int.cast_ofNat_Int, Int.reduceLT, Int.reduceLE, Int.le_refl, Int.reduceBEq, Int.reduceEq, beq_self_eq_true, Int.reduceToNat, D.isAg, bne, Bool.not_true, Bool.not_false, Bool.true_and, Bool.false_and, Bool.and_true, Bool.and_false, Bool.true_or, Bool.false_or, Bool.or_true, Bool.or_false, go_sem, ↓reduceIte, Nat.reduceEqDiff, Nat.reduceAdd, Nat.reduceLeDiff, Nat.reduceMul, Nat.reduceBEq, Nat.reduceBneDiff, Nat.reduceLT, Nat.reduceSub, Bool.false_eq_true, List.cons_append, List.nil_append, Int.ofNat_lt, Int.natCast_nonneg]
    · have hj : joinR n1 (tb_ Aa.2 k) (tb_ Ab.2 k) x y = false := by simp [joinR, hx1, hy1]
      simp +contextual -implicitDefEqProofs only [k_joinModels1, at0, hx1, hy1, hj, List.length_map, eM, eG, eS, eI, eB, D.size, D.sizeL, D.sub, Int.cast_ofNat_Int, Int.reduceLT, Int.reduceLE, Int.le_refl, Int.reduceBEq, Int.reduceEq, beq_self_eq_true, Int.reduceToNat, D.isAg, bne, Bool.not_true, Bool.not_false, Bool.true_and, Bool.false_and, Bool.and_true, Bool.and_false, Bool.true_or, Bool.false_or, Bool.or_true, Bool.or_false, go_sem, ↓reduceIte, Nat.reduceEqDiff, Nat.reduceAdd, Nat.reduceLeDiff, Nat.reduceMul, Nat.reduceBEq, Nat.reduceBneDiff, Nat.reduceLT, Nat.reduceSub, Bool.false_eq_true, List.cons_append, List.nil_append, Int.ofNat_lt, Int.natCast_nonneg]
  · have wx : IntKind.i64.wrap ((x : Int) - (n1 : Int)) = ((x - n1 : Nat) : Int) := by rw [wrap_i64 (by omega) (by omega)]; omega
    have wy : n1 ≤ y → IntKind.i64.wrap ((y : Int) - (n1 : Int)) = ((y - n1 : Nat) : Int) := fun h => by rw [wrap_i64 (by omega) (by omega)]; omega
    by_cases hy1 : n1 ≤ y
    · have wy := wy hy1
      have hx2 : x - n1 < n2 := by omega
      have hy2 : y - n1 < n2 := by omega
      have hy3 : (n1 : Int) ≤ (y : Int) := by omega
      have b1 := s2.at hx2
      have b2 := s2.at2 hx2 hy2
      have b3 := s2.rows hx2
      have b4 := s2.len
      have hj : joinR n1 (tb_ Aa.2 k) (tb_ Ab.2 k) x y = relOf (Ab.2.getD k (none, [])) (x - n1) (y - n1) := by unfold joinR; rw [if_neg hx1, decide_eq_true hy1]; rfl
      simp +contextual -implicitDefEqProofs only [k_joinModels1, at0, c2, b1, b2, b3, b4, hk2, hx1, hy1, hy3, hx2, hy2, wx, wy, hj, List.length_map, Int.toNat_natCast, eM, eG, eS, eI, eB, D.size, D.sizeL, D.sub, Int.cast_ofNat_Int, Int.reduceLT, Int.reduceLE, Int.le_refl, Int.reduceBEq, Int.reduceEq, beq_self_eq_true, Int.reduceToNat, D.isAg, bne, Bool.not_true, Bool.not_false, Bool.true_and, Bool.false_and, Bool.and_true, Bool.and_false, Bool.true_or, Bool.false_or, Bool.or_true, Bool.or_false, go_sem, ↓reduceIte, Nat.reduceEqDiff, Nat.reduceAdd, Nat.reduceLeDiff, Nat.reduceMul, Nat.reduceBEq, Nat.reduceBneDiff, Nat.reduceLT, Nat.reduceSub, Bool.false_eq_true, List.cons_append, List.nil_append, Int.ofNat_lt, Int.natCast_nonneg]
    · have hy3 : ¬ (n1 : Int) ≤ (y : Int) := by omega
      have hj : joinR n1 (tb_ Aa.2 k) (tb_ Ab.2 k) x y = false := by simp [joinR, hx1, hy1]
      simp +contextual -implicitDefEqProofs only [k_joinModels1, at0, hx1, hy1, hy3, hj, List.length_map, eM, eG, eS, eI, eB, D.size, D.sizeL, D.sub, Int.cast_ofNat_Int, Int.reduceLT, Int.reduceLE, Int.le_refl, Int.reduceBEq, Int.reduceEq, beq_self_eq_true, Int.reduceToNat, D.isAg, bne, Bool.not_true, Bool.not_false, Bool.true_and, Bool.false_and, Bool.and_true, Bool.and_false, Bool.true_or, Bool.false_or, Bool.or_true, Bool.or_false, go_sem, ↓reduceIte, Nat.reduceEqDiff, Nat.reduceAdd, Nat.reduceLeDiff, Nat.reduceMul, Nat.reduceBEq, Nat.reduceBneDiff, Nat.reduceLT, Nat.reduceSub, Bool.false_eq_true, List.cons_append, List.nil_append, Int.ofNat_lt, Int.natCast_nonneg]

def k_spJoinModels (f1 f2 : Nat) : RC := (.seq (.reg false [⟨none, .box 2 5 (.t 0)⟩, ⟨none, .box 3 5 (.t 1)⟩, ⟨none, .zer 4 5 (.ag [(.sc (.int .i64 0)), (.sc (.int .i64 0)), (.sc (.int .i64 0)), (.ls (some true) 1 []), (.ls (some true) 1 [])])⟩, ⟨none, .mv 5 (.c (.sc (.int .i64 0)))⟩]) ((.seq ((.seq (.reg false [⟨none, .call (some 12) f1 [(.t 2)]⟩, ⟨none, .un 13 .not (.t 12)⟩, ⟨none, .mv 14 (.t 13)⟩, ⟨some (14, false), .call (some 15) f1 [(.t 3)]⟩, ⟨some (14, false), .un 16 .not (.t 15)⟩, ⟨none, .pick 17 (.t 14) (.c (.sc (.bool true))) (.t 16)⟩]) (.cond (.t 17) ((.seq (.reg false [⟨none, .bld 18 (.ag [(.sc (.int .i64 0)), (.sc (.int .i64 0)), (.sc (.int .i64 0)), (.ls (some true) 1 []), (.ls (some true) 1 [])]) []⟩, ⟨none, .st 5 (.t 4) (.t 18)⟩, ⟨none, .mv 5 (.c (.sc (.int .i64 1)))⟩]) (.ret))) (.skip)))) ((.seq ((.seq (.reg false [⟨none, .fa 19 0 (.t 2)⟩, ⟨none, .ld 20 true 2 (.t 19)⟩, ⟨none, .fa 21 0 (.t 3)⟩, ⟨none, .ld 22 true 2 (.t 21)⟩, ⟨none, .ceq 23 true 2 (.t 20) (.t 22)⟩]) (.cond (.t 23) ((.seq (.reg false [⟨none, .bld 24 (.ag [(.sc (.int .i64 0)), (.sc (.int .i64 0)), (.sc (.int .i64 0)), (.ls (some true) 1 []), (.ls (some true) 1 [])]) []⟩, ⟨none, .st 5 (.t 4) (.t 24)⟩, ⟨none, .mv 5 (.c (.sc (.int .i64 2)))⟩]) (.ret))) (.skip)))) ((.seq ((.seq (.reg false [⟨none, .fa 25 2 (.t 2)⟩, ⟨none, .ld 26 false 1 (.t 25)⟩, ⟨none, .fa 27 2 (.t 3)⟩, ⟨none, .ld 28 false 1 (.t 27)⟩, ⟨none, .bin 29 .add (.t 26) (.t 28)⟩, ⟨none, .bin 30 .gtr (.t 29) (.c (.sc (.int .i64 8)))⟩]) (.cond (.t 30) ((.seq (.reg false [⟨none, .bld 31 (.ag [(.sc (.int .i64 0)), (.sc (.int .i64 0)), (.sc (.int .i64 0)), (.ls (some true) 1 []), (.ls (some true) 1 [])]) []⟩, ⟨none, .st 5 (.t 4) (.t 31)⟩, ⟨none, .mv 5 (.c (.sc (.int .i64 3)))⟩]) (.ret))) (.skip)))) ((.seq (.reg false [⟨none, .fa 32 0 (.t 2)⟩, ⟨none, .ld 33 true 2 (.t 32)⟩, ⟨none, .fa 34 2 (.t 2)⟩, ⟨none, .ld 35 false 1 (.t 34)⟩, ⟨none, .fa 36 2 (.t 3)⟩, ⟨none, .ld 37 false 1 (.t 36)⟩, ⟨none, .bin 38 .add (.t 35) (.t 37)⟩, ⟨none, .bld 39 (.ag [(.sc (.int .i64 0)), (.sc (.int .i64 0)), (.sc (.int .i64 0)), (.ls (some true) 1 []), (.ls (some true) 1 [])]) [(0, 2, (.t 33)), (2, 1, (.t 38))]⟩, ⟨none, .zer 6 5 (.ag [(.sc (.int .i64 0)), (.sc (.int .i64 0)), (.sc (.int .i64 0)), (.ls (some true) 1 []), (.ls (some true) 1 [])])⟩, ⟨none, .st 5 (.t 6) (.t 39)⟩]) ((.seq ((.seq (.reg false [⟨none, .mv 7 (.c (.sc (.int .i64 0)))⟩]) (.blk 0 (.loop ((.seq ((.seq (.reg false [⟨none, .mv 40 (.t 7)⟩, ⟨none, .fa 41 3 (.t 2)⟩, ⟨none, .ld 42 false 1 (.t 41)⟩, ⟨none, .len 43 (.t 42)⟩, ⟨none, .bin 44 .lss (.t 40) (.t 43)⟩]) (.cond (.t 44) (.skip) (.exit 0)))) ((.seq (.blk 1 (.regL [⟨none, .fa 47 3 (.t 6)⟩, ⟨none, .ld 48 false 1 (.t 47)⟩, ⟨none, .bs 49 1 (.sc (.bool false)) 0 []⟩, ⟨none, .fa 50 3 (.t 2)⟩, ⟨none, .ld 51 false 1 (.t 50)⟩, ⟨none, .mv 52 (.t 7)⟩, ⟨none, .ia 53 1 (.t 51) (.t 52)⟩, ⟨none, .ld 54 false 1 (.t 53)⟩, ⟨none, .fa 56 3 (.t 3)⟩, ⟨none, .ld 57 false 1 (.t 56)⟩, ⟨none, .mv 58 (.t 7)⟩, ⟨none, .ia 59 1 (.t 57) (.t 58)⟩, ⟨none, .ld 60 false 1 (.t 59)⟩] [([(.ld 48 false 1 (.t 47)), (.ld 57 false 1 (.t 56)), (.ia 59 1 (.t 57) (.t 58)), (.ld 60 false 1 (.t 59))], ⟨none, .app 55 1 1 (.t 49) (.t 54)⟩), ([(.ld 48 false 1 (.t 47)), (.ld 57 false 1 (.t 56)), (.ia 59 1 (.t 57) (.t 58)), (.ld 60 false 1 (.t 59))], ⟨none, .app 61 1 1 (.t 55) (.t 60)⟩), ([(.ld 48 false 1 (.t 47))], ⟨none, .bs 62 1 (.ls (some true) 1 []) 1 [(0, (.t 61))]⟩), ([(.ld 48 false 1 (.t 47))], ⟨none, .app 63 1 24 (.t 48) (.t 62)⟩), ([], ⟨none, .fa 64 3 (.t 6)⟩), ([], ⟨none, .st 1 (.t 64) (.t 63)⟩)])) (.reg false [⟨none, .mv 45 (.t 7)⟩, ⟨none, .bin 46 .add (.t 45) (.c (.sc (.int .i64 1)))⟩, ⟨none, .mv 7 (.t 46)⟩]))))))))) ((.seq ((.seq (.reg false [⟨none, .mv 8 (.c (.sc (.int .i64 0)))⟩]) (.blk 2 (.loop ((.seq ((.seq (.reg false [⟨none, .mv 65 (.t 8)⟩, ⟨none, .fa 66 4 (.t 2)⟩, ⟨none, .ld 67 false 1 (.t 66)⟩, ⟨none, .len 68 (.t 67)⟩, ⟨none, .bin 69 .lss (.t 65) (.t 68)⟩]) (.cond (.t 69) (.skip) (.exit 2)))) ((.seq (.blk 3 ((.seq (.reg false [⟨none, .fa 72 2 (.t 6)⟩, ⟨none, .ld 73 false 1 (.t 72)⟩, ⟨none, .call (some 74) f2 [(.t 73)]⟩, ⟨none, .mv 9 (.t 74)⟩]) ((.seq ((.seq (.reg false [⟨none, .mv 10 (.c (.sc (.int .i64 0)))⟩]) (.blk 4 (.loop ((.seq ((.seq (.reg false [⟨none, .mv 75 (.t 10)⟩, ⟨none, .fa 76 2 (.t 2)⟩, ⟨none, .ld 77 false 1 (.t 76)⟩, ⟨none, .bin 78 .lss (.t 75) (.t 77)⟩]) (.cond (.t 78) (.skip) (.exit 4)))) ((.seq (.blk 5 (.reg true [⟨none, .mv 81 (.t 9)⟩, ⟨none, .mv 82 (.t 10)⟩, ⟨none, .ia 83 1 (.t 81) (.t 82)⟩, ⟨none, .ld 84 false 1 (.t 83)⟩, ⟨none, .fa 85 4 (.t 2)⟩, ⟨none, .ld 86 false 1 (.t 85)⟩, ⟨none, .mv 87 (.t 8)⟩, ⟨none, .ia 88 1 (.t 86) (.t 87)⟩, ⟨none, .ld 89 false 1 (.t 88)⟩, ⟨none, .mv 90 (.t 10)⟩, ⟨none, .ia 91 1 (.t 89) (.t 90)⟩, ⟨none, .ld 92 false 1 (.t 91)⟩, ⟨none, .cpy (some 93) 1 (.t 84) (.t 92)⟩])) (.reg false [⟨none, .mv 79 (.t 10)⟩, ⟨none, .bin 80 .add (.t 79) (.c (.sc (.int .i64 1)))⟩, ⟨none, .mv 10 (.t 80)⟩]))))))))) ((.seq ((.seq (.reg false [⟨none, .mv 11 (.c (.sc (.int .i64 0)))⟩]) (.blk 6 (.loop ((.seq ((.seq (.reg false [⟨none, .mv 94 (.t 11)⟩, ⟨none, .fa 95 2 (.t 3)⟩, ⟨none, .ld 96 false 1 (.t 95)⟩, ⟨none, .bin 97 .lss (.t 94) (.t 96)⟩]) (.cond (.t 97) (.skip) (.exit 6)))) ((.seq (.blk 7 (.reg true [⟨none, .mv 100 (.t 9)⟩, ⟨none, .fa 101 2 (.t 2)⟩, ⟨none, .ld 102 false 1 (.t 101)⟩, ⟨none, .mv 103 (.t 11)⟩, ⟨none, .bin 104 .add (.t 102) (.t 103)⟩, ⟨none, .ia 105 1 (.t 100) (.t 104)⟩, ⟨none, .ld 106 false 1 (.t 105)⟩, ⟨none, .fa 107 2 (.t 2)⟩, ⟨none, .ld 108 false 1 (.t 107)⟩, ⟨none, .slc 109 1 (.t 106) (some (.t 108)) none⟩, ⟨none, .fa 110 4 (.t 3)⟩, ⟨none, .ld 111 false 1 (.t 110)⟩, ⟨none, .mv 112 (.t 8)⟩, ⟨none, .ia 113 1 (.t 111) (.t 112)⟩, ⟨none, .ld 114 false 1 (.t 113)⟩, ⟨none, .mv 115 (.t 11)⟩, ⟨none, .ia 116 1 (.t 114) (.t 115)⟩, ⟨none, .ld 117 false 1 (.t 116)⟩, ⟨none, .cpy (some 118) 1 (.t 109) (.t 117)⟩])) (.reg false [⟨none, .mv 98 (.t 11)⟩, ⟨none, .bin 99 .add (.t 98) (.c (.sc (.int .i64 1)))⟩, ⟨none, .mv 11 (.t 99)⟩]))))))))) (.reg false [⟨none, .fa 119 4 (.t 6)⟩, ⟨none, .ld 120 false 1 (.t 119)⟩, ⟨none, .mv 121 (.t 9)⟩, ⟨none, .bs 122 1 (.ls (some true) 1 []) 1 [(0, (.t 121))]⟩, ⟨none, .app 123 1 24 (.t 120) (.t 122)⟩, ⟨none, .fa 124 4 (.t 6)⟩, ⟨none, .st 1 (.t 124) (.t 123)⟩])))))))) (.reg false [⟨none, .mv 70 (.t 8)⟩, ⟨none, .bin 71 .add (.t 70) (.c (.sc (.int .i64 1)))⟩, ⟨none, .mv 8 (.t 71)⟩]))))))))) ((.seq (.reg false [⟨none, .ld 125 true 5 (.t 6)⟩, ⟨none, .st 5 (.t 4) (.t 125)⟩, ⟨none, .mv 5 (.c (.sc (.int .i64 0)))⟩]) (.ret))))))))))))))))
def K_spJoinModels (P : Program) (fno : Nat) : Prop := ∀ (a b : Mo), AF P fno [eM a, eM b] (.tup ([.own (eM (joinS a b).1), .own (eI (joinS a b).2)]))
theorem a_spJoinModels {P : Program} (hm : P.follows .mixedOrders = true) {g f1 f2 : Nat} (hr : resF P g = some (126, k_spJoinModels f1 f2, [.c 4 5 true, .t 5])) (hc1 : K_l05Ok P f1) (hc2 : K_l05None P f2) : K_spJoinModels P g := by
  intro a b
  obtain ⟨⟨g1, g2⟩, pa, Ta, Aa⟩ := a
  obtain ⟨⟨h1, h2⟩, pb, Tb, Ab⟩ := b
  refine af_of_res hr hm rfl fun hb => ?_
  simp +contextual -implicitDefEqProofs only [k_spJoinModels, at0, D.put, D.cells, D.size, D.sizeL, D.isAg, modeOf, noPtrs, List.length_map, eM, eG, eS, eI, eB, D.sub, Int.cast_ofNat_Int, Int.reduceLT, Int.reduceLE, Int.le_refl, Int.reduceBEq, Int.reduceEq, beq_self_eq_true, Int.reduceToNat, bne, Bool.not_true, Bool.not_false, Bool.true_and, Bool.false_and, Bool.and_true, Bool.and_false, Bool.true_or, Bool.false_or, Bool.or_true, Bool.or_false, go_sem, ↓reduceIte, Nat.reduceEqDiff, Nat.reduceAdd, Nat.reduceLeDiff, Nat.reduceMul, Nat.reduceBEq, Nat.reduceBneDiff, Nat.reduceLT, Nat.reduceSub, Bool.false_eq_true, List.cons_append, List.nil_append, Int.ofNat_lt, Int.natCast_nonneg]
  refine callQ_self (ds := [.pt (eM ((g1, g2), pa, Ta, Aa)) 0]) (by rfl) (hc1 ((g1, g2), pa, Ta, Aa)) ?_
  cases ho : okMo ((g1, g2), pa, Ta, Aa)
  · rw [show joinS ((g1, g2), pa, Ta, Aa) ((h1, h2), pb, Tb, Ab) = (zeroMo, 1) by simp [joinS, ho]]
    simp +contextual -implicitDefEqProofs only [zeroMo, at0, D.put, D.cells, D.size, D.sizeL, D.isAg, modeOf, noPtrs, List.length_map, eM, eG, eS, eI, eB, D.sub, Int.cast_ofNat_Int, Int.reduceLT, Int.reduceLE, Int.le_refl, Int.reduceBEq, Int.reduceEq, beq_self_eq_true, Int.reduceToNat, bne, Bool.not_true, Bool.not_false, Bool.true_and, Bool.false_and, Bool.and_true, Bool.and_false, Bool.true_or, Bool.false_or, Bool.or_true, Bool.or_false, go_sem, ↓reduceIte, Nat.reduceEqDiff, Nat.reduceAdd, Nat.reduceLeDiff, Nat.reduceMul, Nat.reduceBEq, Nat.reduceBneDiff, Nat.reduceLT, Nat.reduceSub, Bool.false_eq_true, List.cons_append, List.nil_append, Int.ofNat_lt, Int.natCast_nonneg]
  simp +contextual -implicitDefEqProofs only [at0, D.put, D.cells, D.size, D.sizeL, D.isAg, modeOf, noPtrs, List.length_map, eM, eG, eS, eI, eB, D.sub, Int.cast_ofNat_Int, Int.reduceLT, Int.reduceLE, Int.le_refl, Int.reduceBEq, Int.reduceEq, beq_self_eq_true, Int.reduceToNat, bne, Bool.not_true, Bool.not_false, Bool.true_and, Bool.false_and, Bool.and_true, Bool.and_false, Bool.true_or, Bool.false_or, Bool.or_true, Bool.or_false, go_sem, ↓reduceIte, Nat.reduceEqDiff, Nat.reduceAdd, Nat.reduceLeDiff, Nat.reduceMul, Nat.reduceBEq, Nat.reduceBneDiff, Nat.reduceLT, Nat.reduceSub, Bool.false_eq_true, List.cons_append, List.nil_append, Int.ofNat_lt, Int.natCast_nonneg]
  refine callQ_self (ds := [.pt (eM ((h1, h2), pb, Tb, Ab)) 0]) (by rfl) (hc1 ((h1, h2), pb, Tb, Ab)) ?_
  cases ho2 : okMo ((h1, h2), pb, Tb, Ab)
  · rw [show joinS ((g1, g2), pa, Ta, Aa) ((h1, h2), pb, Tb, Ab) = (zeroMo, 1) by simp [joinS, ho, ho2]]
    simp +contextual -implicitDefEqProofs only [zeroMo, at0, D.put, D.cells, D.size, D.sizeL, D.isAg, modeOf, noPtrs, List.length_map, eM, eG, eS, eI, eB, D.sub, Int.cast_ofNat_Int, Int.reduceLT, Int.reduceLE, Int.le_refl, Int.reduceBEq, Int.reduceEq, beq_self_eq_true, Int.reduceToNat, bne, Bool.not_true, Bool.not_false, Bool.true_and, Bool.false_and, Bool.and_true, Bool.and_false, Bool.true_or, Bool.false_or, Bool.or_true, Bool.or_false, go_sem, ↓reduceIte, Nat.reduceEqDiff, Nat.reduceAdd, Nat.reduceLeDiff, Nat.reduceMul, Nat.reduceBEq, Nat.reduceBneDiff, Nat.reduceLT, Nat.reduceSub, Bool.false_eq_true, List.cons_append, List.nil_append, Int.ofNat_lt, Int.natCast_nonneg]
  simp +contextual -implicitDefEqProofs only [at0, D.put, D.cells, D.size, D.sizeL, D.isAg, modeOf, noPtrs, List.length_map, eM, eG, eS, eI, eB, D.sub, Int.cast_ofNat_Int, Int.reduceLT, Int.reduceLE, Int.le_refl, Int.reduceBEq, Int.reduceEq, beq_self_eq_true, Int.reduceToNat, bne, Bool.not_true, Bool.not_false, Bool.true_and, Bool.false_and, Bool.and_true, Bool.and_false, Bool.true_or, Bool.false_or, Bool.or_true, Bool.or_false, go_sem, ↓reduceIte, Nat.reduceEqDiff, Nat.reduceAdd, Nat.reduceLeDiff, Nat.reduceMul, Nat.reduceBEq, Nat.reduceBneDiff, Nat.reduceLT, Nat.reduceSub, Bool.false_eq_true, List.cons_append, List.nil_append, Int.ofNat_lt, Int.natCast_nonneg]
  cases hg : (g1 == h1 && g2 == h2)
  · rw [show joinS ((g1, g2), pa, Ta, Aa) ((h1, h2), pb, Tb, Ab) = (zeroMo, 2) by simp [joinS, ho, ho2, hg]]
    simp +contextual -implicitDefEqProofs only [zeroMo, hg, at0, D.put, D.cells, D.size, D.sizeL, D.isAg, modeOf, noPtrs, List.length_map, eM, eG, eS, eI, eB, D.sub, Int.cast_ofNat_Int, Int.reduceLT, Int.reduceLE, Int.le_refl, Int.reduceBEq, Int.reduceEq, beq_self_eq_true, Int.reduceToNat, bne, Bool.not_true, Bool.not_false, Bool.true_and, Bool.false_and, Bool.and_true, Bool.and_false, Bool.true_or, Bool.false_or, Bool.or_true, Bool.or_false, go_sem, ↓reduceIte, Nat.reduceEqDiff, Nat.reduceAdd, Nat.reduceLeDiff, Nat.reduceMul, Nat.reduceBEq, Nat.reduceBneDiff, Nat.reduceLT, Nat.reduceSub, Bool.false_eq_true, List.cons_append, List.nil_append, Int.ofNat_lt, Int.natCast_nonneg]
  simp only [Bool.and_eq_true, beq_iff_eq] at hg
  obtain ⟨rfl, rfl⟩ := hg
  obtain ⟨n1, hA⟩ := okMo_ok ho
  obtain ⟨n2, hB⟩ := okMo_ok ho2
  obtain rfl : pa = n1 := hA.pts
  obtain rfl : pb = n2 := hB.pts
  have a8 := hA.n8
  have b8 := hB.n8
  have a1 := hA.n1
  have b1 := hB.n1
  have tl := hA.tl
  have tlb := hB.tl
  have al := hA.al
  have alb := hB.al
  have hG := hA.g
  have tra := hA.tr
  have trb := hB.tr
  have asa := hA.asq
  have asb := hB.asq
  simp only [okG, Bool.and_eq_true, isIn_iff'] at tl tlb al alb hG tra trb asa asb
  have wn : IntKind.i64.wrap ((n1 : Int) + (n2 : Int)) = ((n1 + n2 : Nat) : Int) := by rw [wrap_i64 (by omega) (by omega)]; omega
  by_cases h8 : ((n1 + n2 : Nat) : Int) > 8
  · rw [show joinS ((g1, g2), (n1 : Int), Ta, Aa) ((g1, g2), (n2 : Int), Tb, Ab) = (zeroMo, 3) by
      have : (n1 : Int) + (n2 : Int) > 8 := by omega
      simp [joinS, ho, ho2, this]]
    simp +contextual -implicitDefEqProofs only [zeroMo, wn, beq_self_eq_true, h8, at0, D.put, D.cells, D.size, D.sizeL, D.isAg, modeOf, noPtrs, List.length_map, eM, eG, eS, eI, eB, D.sub, Int.cast_ofNat_Int, Int.reduceLT, Int.reduceLE, Int.le_refl, Int.reduceBEq, Int.reduceEq, Int.reduceToNat, bne, Bool.not_true, Bool.not_false, Bool.true_and, Bool.false_and, Bool.and_true, Bool.and_false, Bool.true_or, Bool.false_or, Bool.or_true, Bool.or_false, go_sem, ↓reduceIte, Nat.reduceEqDiff, Nat.reduceAdd, Nat.reduceLeDiff, Nat.reduceMul, Nat.reduceBEq, Nat.reduceBneDiff, Nat.reduceLT, Nat.reduceSub, Bool.false_eq_true, List.cons_append, List.nil_append, Int.ofNat_lt, Int.natCast_nonneg]
  have n12 : n1 + n2 ≤ 8 := by omega
  rw [show joinS ((g1, g2), (n1 : Int), Ta, Aa) ((g1, g2), (n2 : Int), Tb, Ab) = (joinMo (g1, g2) n1 (n1 + n2) Ta.2 Tb.2 Aa.2 Ab.2, 0) by
    have : ¬ ((n1 : Int) + (n2 : Int) > 8) := by omega
    simp [joinS, ho, ho2, this]]
  have hS := join_eq (g := (g1, g2)) (n1 := n1) (n := n1 + n2) (T1 := Ta.2) (T2 := Tb.2) (A1 := Aa.2) (A2 := Ab.2)
  simp only [eM, eS, eI] at hS
  simp +contextual -implicitDefEqProofs only [h8, wn, beq_self_eq_true, at0, D.put, D.cells, D.size, D.sizeL, D.isAg, modeOf, noPtrs, List.length_map, eM, eG, eS, eI, eB, D.sub, Int.cast_ofNat_Int, Int.reduceLT, Int.reduceLE, Int.le_refl, Int.reduceBEq, Int.reduceEq, Int.reduceToNat, bne, Bool.not_true, Bool.not_false, Bool.true_and, Bool.false_and, Bool.and_true, Bool.and_false, Bool.true_or, Bool.false_or, Bool.or_true, Bool.or_false, go_sem, ↓reduceIte, Nat.reduceEqDiff, Nat.reduceAdd, Nat.reduceLeDiff, Nat.reduceMul, Nat.reduceBEq, Nat.reduceBneDiff, Nat.reduceLT, Nat.reduceSub, Bool.false_eq_true, List.cons_append, List.nil_append, Int.ofNat_lt, Int.natCast_nonneg]
  refine vc_onU (α := Nat) [7, 40, 41, 42, 43, 44, 45, 46, 47, 48, 49, 50, 51, 52, 53, 54, 55, 56, 57, 58, 59, 60, 61, 62, 63, 64] (fun i => [(7, .im none (.sc (.int .i64 i)))]) (fun i => [(6, .ar true (some false) 5 [.ag [.sc (.int .i64 g1), .sc (.int .i64 g2), .sc (.int .i64 (n1 + n2 : Nat)), .ls (nnN i) 1 (tabL i (jRow Ta.2 Tb.2)), .ls (some true) 1 []]]), (4, .ar true (some false) 5 [.ag [.sc (.int .i64 0), .sc (.int .i64 0), .sc (.int .i64 0), .ls (some true) 1 [], .ls (some true) 1 []]]), (3, .ar false (some false) 5 [.ag [.sc (.int .i64 g1), .sc (.int .i64 g2), .sc (.int .i64 n2), .ls Tb.1 1 (Tb.2.map (eS 1 eB)), .ls Ab.1 1 (Ab.2.map (eS 1 (eS 1 eB)))]]), (2, .ar false (some false) 5 [.ag [.sc (.int .i64 g1), .sc (.int .i64 g2), .sc (.int .i64 n1), .ls Ta.1 1 (Ta.2.map (eS 1 eB)), .ls Aa.1 1 (Aa.2.map (eS 1 (eS 1 eB)))]])]) (fun i => i ≤ Ta.2.length) (fun i => Ta.2.length - i) 0 (Ent.to [] (by simp only [go_sem, ↓reduceIte, Nat.reduceEqDiff, Nat.reduceBEq, Nat.reduceBneDiff, Bool.false_eq_true]; rfl) rfl (by simp [nnN, tabL_at0]) (by rfl) (by simp only [subEnv, go_sem, ↓reduceIte, Nat.reduceEqDiff, Nat.reduceBEq, keep, memN, Bool.or_false, Bool.false_or, Bool.or_self, Bool.false_eq_true] <;> simp)) (Nat.zero_le _) ?_
  intro i hi0
  by_cases hi : i < Ta.2.length
  · have hi2 : i < Tb.2.length := by omega
    have e1 := at_mapD (f := eS 1 eB) (d := (none, [])) hi
    have e2 := at_mapD (f := eS 1 eB) (d := (none, [])) hi2
    obtain ⟨c1, l1, q1, q2⟩ := ls_cons tra a1 hi
    obtain ⟨c2, l2, q3, q4⟩ := ls_cons trb b1 hi2
    simp only [eS] at e1 e2
    rw [show (Ta.2.getD i (none, [])).2 = _ from q1] at e1
    rw [show (Tb.2.getD i (none, [])).2 = _ from q3] at e2
    simp +contextual -implicitDefEqProofs only [hi, hi2, e1, e2, at0, np_B, List.map_cons, List.length_cons, D.put, D.cells, D.size, D.sizeL, D.isAg, modeOf, noPtrs, List.length_map, eM, eG, eS, eI, eB, D.sub, Int.cast_ofNat_Int, Int.reduceLT, Int.reduceLE, Int.le_refl, Int.reduceBEq, Int.reduceEq, beq_self_eq_true, Int.reduceToNat, bne, Bool.not_true, Bool.not_false, Bool.true_and, Bool.false_and, Bool.and_true, Bool.and_false, Bool.true_or, Bool.false_or, Bool.or_true, Bool.or_false, go_sem, ↓reduceIte, Nat.reduceEqDiff, Nat.reduceAdd, Nat.reduceLeDiff, Nat.reduceMul, Nat.reduceBEq, Nat.reduceBneDiff, Nat.reduceLT, Nat.reduceSub, Bool.false_eq_true, List.cons_append, List.nil_append, Int.ofNat_lt, Int.natCast_nonneg]
    refine ⟨⟨by omega, by unfold maxEl; omega, sz_Bc⟩, ⟨by omega, by unfold maxEl; omega, sz_Bc⟩, rfl, by simp; omega, ⟨by rw [tabL_len]; omega, by rw [tabL_len]; unfold maxEl; omega, by simp [D.size]⟩, i + 1, by omega, by omega, ?_⟩
    rw [wrap_i64 (by omega) (by omega)]
    exact Ent.to [] (by simp only [go_sem, ↓reduceIte, Nat.reduceEqDiff, Nat.reduceBEq, Nat.reduceBneDiff, Bool.false_eq_true]; rfl) rfl (by simp [tabL_succ, jRow, nnN, q1, q3, eB]) (by rfl) (by simp only [subEnv, go_sem, ↓reduceIte, Nat.reduceEqDiff, Nat.reduceBEq, keep, memN, Bool.or_false, Bool.false_or, Bool.or_self, Bool.false_eq_true] <;> simp)
  · obtain rfl : i = Ta.2.length := by omega
    simp +contextual -implicitDefEqProofs only [hi, at0, D.put, D.cells, D.size, D.sizeL, D.isAg, modeOf, noPtrs, List.length_map, eM, eG, eS, eI, eB, D.sub, Int.cast_ofNat_Int, Int.reduceLT, Int.reduceLE, Int.le_refl, Int.reduceBEq, Int.reduceEq, beq_self_eq_true, Int.reduceToNat, bne, Bool.not_true, Bool.not_false, Bool.true_and, Bool.false_and, Bool.and_true, Bool.and_false, Bool.true_or, Bool.false_or, Bool.or_true, Bool.or_false, go_sem, ↓reduceIte, Nat.reduceEqDiff, Nat.reduceAdd, Nat.reduceLeDiff, Nat.reduceMul, Nat.reduceBEq, Nat.reduceBneDiff, Nat.reduceLT, Nat.reduceSub, Bool.false_eq_true, List.cons_append, List.nil_append, Int.ofNat_lt, Int.natCast_nonneg]
    refine vc_onU (α := Nat) [8, 9, 10, 11, 65, 66, 67, 68, 69, 70, 71, 72, 73, 74, 75, 76, 77, 78, 79, 80, 81, 82, 83, 84, 85, 86, 87, 88, 89, 90, 91, 92, 94, 95, 96, 97, 98, 99, 100, 101, 102, 103, 104, 105, 106, 107, 108, 109, 110, 111, 112, 113, 114, 115, 116, 117, 119, 120, 121, 122, 123, 124] (fun i => [(8, .im none (.sc (.int .i64 i)))]) (fun i => [(6, .ar true (some false) 5 [.ag [.sc (.int .i64 g1), .sc (.int .i64 g2), .sc (.int .i64 (n1 + n2 : Nat)), .ls (nnN Ta.2.length) 1 (tabL Ta.2.length (jRow Ta.2 Tb.2)), .ls (nnN i) 1 (tabL i (jTab n1 (n1 + n2) Aa.2 Ab.2))]]), (4, .ar true (some false) 5 [.ag [.sc (.int .i64 0), .sc (.int .i64 0), .sc (.int .i64 0), .ls (some true) 1 [], .ls (some true) 1 []]]), (3, .ar false (some false) 5 [.ag [.sc (.int .i64 g1), .sc (.int .i64 g2), .sc (.int .i64 n2), .ls Tb.1 1 (Tb.2.map (eS 1 eB)), .ls Ab.1 1 (Ab.2.map (eS 1 (eS 1 eB)))]]), (2, .ar false (some false) 5 [.ag [.sc (.int .i64 g1), .sc (.int .i64 g2), .sc (.int .i64 n1), .ls Ta.1 1 (Ta.2.map (eS 1 eB)), .ls Aa.1 1 (Aa.2.map (eS 1 (eS 1 eB)))]])]) (fun i => i ≤ Aa.2.length) (fun i => Aa.2.length - i) 0 (Ent.to [] (by simp only [go_sem, ↓reduceIte, Nat.reduceEqDiff, Nat.reduceBEq, Nat.reduceBneDiff, Bool.false_eq_true]; rfl) rfl (by simp [nnN, tabL_at0]) (by rfl) (by simp only [subEnv, go_sem, ↓reduceIte, Nat.reduceEqDiff, Nat.reduceBEq, keep, memN, Bool.or_false, Bool.false_or, Bool.or_self, Bool.false_eq_true] <;> simp)) (Nat.zero_le _) ?_
    intro i hi0
    by_cases hi : i < Aa.2.length
    · have hi2 : i < Ab.2.length := by omega
      have e1 := at_mapD (f := eS 1 (eS 1 eB)) (d := (none, [])) hi
      have e2 := at_mapD (f := eS 1 (eS 1 eB)) (d := (none, [])) hi2
      have s1 : Sq n1 _ := asa _ (getD_mem (d := (none, [])) hi)
      have s2 : Sq n2 _ := asb _ (getD_mem (d := (none, [])) hi2)
      simp only [eS] at e1 e2
      simp +contextual -implicitDefEqProofs only [hi, at0, D.put, D.cells, D.size, D.sizeL, D.isAg, modeOf, noPtrs, List.length_map, eM, eG, eS, eI, eB, D.sub, Int.cast_ofNat_Int, Int.reduceLT, Int.reduceLE, Int.le_refl, Int.reduceBEq, Int.reduceEq, beq_self_eq_true, Int.reduceToNat, bne, Bool.not_true, Bool.not_false, Bool.true_and, Bool.false_and, Bool.and_true, Bool.and_false, Bool.true_or, Bool.false_or, Bool.or_true, Bool.or_false, go_sem, ↓reduceIte, Nat.reduceEqDiff, Nat.reduceAdd, Nat.reduceLeDiff, Nat.reduceMul, Nat.reduceBEq, Nat.reduceBneDiff, Nat.reduceLT, Nat.reduceSub, Bool.false_eq_true, List.cons_append, List.nil_append, Int.ofNat_lt, Int.natCast_nonneg]
      refine callQ_self (ds := [eI ((n1 + n2 : Nat) : Int)]) (by rfl) (hc2 (n1 + n2) (by omega)) ?_
      simp +contextual -implicitDefEqProofs only [rD_len, eM, eG, eS, eI, eB, D.size, D.sizeL, D.sub, Int.cast_ofNat_Int, Int.reduceLT, Int.reduceLE, Int.le_refl, Int.reduceBEq, Int.reduceEq, beq_self_eq_true, Int.reduceToNat, D.isAg, bne, Bool.not_true, Bool.not_false, Bool.true_and, Bool.false_and, Bool.and_true, Bool.and_false, Bool.true_or, Bool.false_or, Bool.or_true, Bool.or_false, go_sem, ↓reduceIte, Nat.reduceEqDiff, Nat.reduceAdd, Nat.reduceLeDiff, Nat.reduceMul, Nat.reduceBEq, Nat.reduceBneDiff, Nat.reduceLT, Nat.reduceSub, Bool.false_eq_true, List.cons_append, List.nil_append, Int.ofNat_lt, List.length_map, Int.natCast_nonneg]
      refine vc_onU (α := Nat) [10, 75, 76, 77, 78, 79, 80, 81, 82, 83, 84, 85, 86, 87, 88, 89, 90, 91, 92] (fun x => [(10, .im none (.sc (.int .i64 x)))]) (fun x => [(74, .ar true (some false) 1 (rD (n1 + n2) (jR1 n1 (tb_ Aa.2 i) x))), (6, .ar true (some false) 5 [.ag [.sc (.int .i64 g1), .sc (.int .i64 g2), .sc (.int .i64 (n1 + n2 : Nat)), .ls (nnN Ta.2.length) 1 (tabL Ta.2.length (jRow Ta.2 Tb.2)), .ls (nnN i) 1 (tabL i (jTab n1 (n1 + n2) Aa.2 Ab.2))]]), (4, .ar true (some false) 5 [.ag [.sc (.int .i64 0), .sc (.int .i64 0), .sc (.int .i64 0), .ls (some true) 1 [], .ls (some true) 1 []]]), (3, .ar false (some false) 5 [.ag [.sc (.int .i64 g1), .sc (.int .i64 g2), .sc (.int .i64 n2), .ls Tb.1 1 (Tb.2.map (eS 1 eB)), .ls Ab.1 1 (Ab.2.map (eS 1 (eS 1 eB)))]]), (2, .ar false (some false) 5 [.ag [.sc (.int .i64 g1), .sc (.int .i64 g2), .sc (.int .i64 n1), .ls Ta.1 1 (Ta.2.map (eS 1 eB)), .ls Aa.1 1 (Aa.2.map (eS 1 (eS 1 eB)))]])]) (fun x => x ≤ n1) (fun x => n1 - x) 0 (Ent.to [] (by simp only [go_sem, ↓reduceIte, Nat.reduceEqDiff, Nat.reduceBEq, Nat.reduceBneDiff, Bool.false_eq_true]; rfl) rfl (by simp [jR1_z]) (by rfl) (by simp only [subEnv, go_sem, ↓reduceIte, Nat.reduceEqDiff, Nat.reduceBEq, keep, memN, Bool.or_false, Bool.false_or, Bool.or_self, Bool.false_eq_true] <;> simp)) (Nat.zero_le _) ?_
      intro x hx0
      by_cases hx : x < n1
      · have hx' : x < n1 + n2 := by omega
        have a1' := rD_at (R := jR1 n1 (tb_ Aa.2 i) x) hx'
        have t3 := s1.at hx
        rw [s1.row_map hx] at t3
        have t5 := s1.len
        have hst := jR1_step (A := tb_ Aa.2 i) (i := x) (n1 := n1) (n := n1 + n2) (by omega)
        have hmin : min (n1 + n2) n1 = n1 := by omega
        simp +contextual -implicitDefEqProofs only [hi, hx, hx', rD_len, rRow_len, e1, a1', t3, t5, inSet, rRow_np, Option.getD_none, hmin, List.length_set, at0, D.put, D.cells, D.size, D.sizeL, D.isAg, modeOf, noPtrs, List.length_map, eM, eG, eS, eI, eB, D.sub, Int.cast_ofNat_Int, Int.reduceLT, Int.reduceLE, Int.le_refl, Int.reduceBEq, Int.reduceEq, beq_self_eq_true, Int.reduceToNat, bne, Bool.not_true, Bool.not_false, Bool.true_and, Bool.false_and, Bool.and_true, Bool.and_false, Bool.true_or, Bool.false_or, Bool.or_true, Bool.or_false, go_sem, ↓reduceIte, Nat.reduceEqDiff, Nat.reduceAdd, Nat.reduceLeDiff, Nat.reduceMul, Nat.reduceBEq, Nat.reduceBneDiff, Nat.reduceLT, Nat.reduceSub, Bool.false_eq_true, List.cons_append, List.nil_append, Int.ofNat_lt, Int.natCast_nonneg]
        rw [wrap_i64 (by omega) (by omega), hst]
        exact ⟨x + 1, by omega, by omega, Ent.to [] (by simp only [go_sem, ↓reduceIte, Nat.reduceEqDiff, Nat.reduceBEq, Nat.reduceBneDiff, Bool.false_eq_true]; rfl) rfl (by simp) (by rfl) (by simp only [subEnv, go_sem, ↓reduceIte, Nat.reduceEqDiff, Nat.reduceBEq, keep, memN, Bool.or_false, Bool.false_or, Bool.or_self, Bool.false_eq_true] <;> simp)⟩
      · obtain rfl : n1 = x := by omega
        simp +contextual -implicitDefEqProofs only [hx, at0, D.put, D.cells, D.size, D.sizeL, D.isAg, modeOf, noPtrs, List.length_map, eM, eG, eS, eI, eB, D.sub, Int.cast_ofNat_Int, Int.reduceLT, Int.reduceLE, Int.le_refl, Int.reduceBEq, Int.reduceEq, beq_self_eq_true, Int.reduceToNat, bne, Bool.not_true, Bool.not_false, Bool.true_and, Bool.false_and, Bool.and_true, Bool.and_false, Bool.true_or, Bool.false_or, Bool.or_true, Bool.or_false, go_sem, ↓reduceIte, Nat.reduceEqDiff, Nat.reduceAdd, Nat.reduceLeDiff, Nat.reduceMul, Nat.reduceBEq, Nat.reduceBneDiff, Nat.reduceLT, Nat.reduceSub, Bool.false_eq_true, List.cons_append, List.nil_append, Int.ofNat_lt, Int.natCast_nonneg]
        refine vc_onU (α := Nat) [11, 94, 95, 96, 97, 98, 99, 100, 101, 102, 103, 104, 105, 106, 107, 108, 109, 110, 111, 112, 113, 114, 115, 116, 117] (fun x => [(11, .im none (.sc (.int .i64 x)))]) (fun x => [(74, .ar true (some false) 1 (rD (n1 + n2) (jR2 n1 (tb_ Aa.2 i) (tb_ Ab.2 i) x))), (6, .ar true (some false) 5 [.ag [.sc (.int .i64 g1), .sc (.int .i64 g2), .sc (.int .i64 (n1 + n2 : Nat)), .ls (nnN Ta.2.length) 1 (tabL Ta.2.length (jRow Ta.2 Tb.2)), .ls (nnN i) 1 (tabL i (jTab n1 (n1 + n2) Aa.2 Ab.2))]]), (4, .ar true (some false) 5 [.ag [.sc (.int .i64 0), .sc (.int .i64 0), .sc (.int .i64 0), .ls (some true) 1 [], .ls (some true) 1 []]]), (3, .ar false (some false) 5 [.ag [.sc (.int .i64 g1), .sc (.int .i64 g2), .sc (.int .i64 n2), .ls Tb.1 1 (Tb.2.map (eS 1 eB)), .ls Ab.1 1 (Ab.2.map (eS 1 (eS 1 eB)))]]), (2, .ar false (some false) 5 [.ag [.sc (.int .i64 g1), .sc (.int .i64 g2), .sc (.int .i64 n1), .ls Ta.1 1 (Ta.2.map (eS 1 eB)), .ls Aa.1 1 (Aa.2.map (eS 1 (eS 1 eB)))]])]) (fun x => x ≤ n2) (fun x => n2 - x) 0 (Ent.to [] (by simp only [go_sem, ↓reduceIte, Nat.reduceEqDiff, Nat.reduceBEq, Nat.reduceBneDiff, Bool.false_eq_true]; rfl) rfl (by simp [jR2_z]) (by rfl) (by simp only [subEnv, go_sem, ↓reduceIte, Nat.reduceEqDiff, Nat.reduceBEq, keep, memN, Bool.or_false, Bool.false_or, Bool.or_self, Bool.false_eq_true] <;> simp)) (Nat.zero_le _) ?_
        intro y hy0
        by_cases hy : y < n2
        · have hy' : n1 + y < n1 + n2 := by omega
          have w1 : IntKind.i64.wrap ((n1 : Int) + (y : Int)) = ((n1 + y : Nat) : Int) := by rw [wrap_i64 (by omega) (by omega)]; omega
          have a1' := rD_at (R := jR2 n1 (tb_ Aa.2 i) (tb_ Ab.2 i) y) hy'
          have t3 := s2.at hy
          rw [s2.row_map hy] at t3
          have t5 := s2.len
          have hst := jR2_step (A := tb_ Aa.2 i) (B := tb_ Ab.2 i) (i := y) (n1 := n1) (n2 := n2)
          have hmin : min (n1 + n2 - n1) n2 = n2 := by omega
          have hle : n1 ≤ n1 + n2 := by omega
          simp +contextual -implicitDefEqProofs only [hi, hi2, hy, hy', hle, w1, rD_len, rRow_len, e2, a1', t3, t5, inSet, rRow_np, Option.getD_some, hmin, List.length_set, at0, Int.toNat_natCast, D.put, D.cells, D.size, D.sizeL, D.isAg, modeOf, noPtrs, List.length_map, eM, eG, eS, eI, eB, D.sub, Int.cast_ofNat_Int, Int.reduceLT, Int.reduceLE, Int.le_refl, Int.reduceBEq, Int.reduceEq, beq_self_eq_true, Int.reduceToNat, bne, Bool.not_true, Bool.not_false, Bool.true_and, Bool.false_and, Bool.and_true, Bool.and_false, Bool.true_or, Bool.false_or, Bool.or_true, Bool.or_false, go_sem, ↓reduceIte, Nat.reduceEqDiff, Nat.reduceAdd, Nat.reduceLeDiff, Nat.reduceMul, Nat.reduceBEq, Nat.reduceBneDiff, Nat.reduceLT, Nat.reduceSub, Bool.false_eq_true, List.cons_append, List.nil_append, Int.ofNat_lt, Int.natCast_nonneg]
          rw [wrap_i64 (by omega) (by omega), hst]
          exact ⟨by omega, y + 1, by omega, by omega, Ent.to [] (by simp only [go_sem, ↓reduceIte, Nat.reduceEqDiff, Nat.reduceBEq, Nat.reduceBneDiff, Bool.false_eq_true]; rfl) rfl (by simp) (by rfl) (by simp only [subEnv, go_sem, ↓reduceIte, Nat.reduceEqDiff, Nat.reduceBEq, keep, memN, Bool.or_false, Bool.false_or, Bool.or_self, Bool.false_eq_true] <;> simp)⟩
        · obtain rfl : n2 = y := by omega
          simp +contextual -implicitDefEqProofs only [hy, at0, D.put, D.cells, D.size, D.sizeL, D.isAg, modeOf, noPtrs, List.length_map, eM, eG, eS, eI, eB, D.sub, Int.cast_ofNat_Int, Int.reduceLT, Int.reduceLE, Int.le_refl, Int.reduceBEq, Int.reduceEq, beq_self_eq_true, Int.reduceToNat, bne, Bool.not_true, Bool.not_false, Bool.true_and, Bool.false_and, Bool.and_true, Bool.and_false, Bool.true_or, Bool.false_or, Bool.or_true, Bool.or_false, go_sem, ↓reduceIte, Nat.reduceEqDiff, Nat.reduceAdd, Nat.reduceLeDiff, Nat.reduceMul, Nat.reduceBEq, Nat.reduceBneDiff, Nat.reduceLT, Nat.reduceSub, Bool.false_eq_true, List.cons_append, List.nil_append, Int.ofNat_lt, Int.natCast_nonneg]
          refine ⟨rfl, by rw [rD_len], ⟨by rw [tabL_len]; omega, by rw [tabL_len]; unfold maxEl; omega, by simp [D.size]⟩, i + 1, by omega, by omega, ?_⟩
          rw [wrap_i64 (by omega) (by omega)]
          exact Ent.to [] (by simp only [go_sem, ↓reduceIte, Nat.reduceEqDiff, Nat.reduceBEq, Nat.reduceBneDiff, Bool.false_eq_true]; rfl) rfl (by simp [tabL_succ, jTab, nnN, jR2_full]) (by rfl) (by simp only [subEnv, go_sem, ↓reduceIte, Nat.reduceEqDiff, Nat.reduceBEq, keep, memN, Bool.or_false, Bool.false_or, Bool.or_self, Bool.false_eq_true] <;> simp)
    · obtain rfl : i = Aa.2.length := by omega
      simp +contextual -implicitDefEqProofs only [hi, at0, D.put, D.cells, D.size, D.sizeL, D.isAg, modeOf, noPtrs, List.length_map, eM, eG, eS, eI, eB, D.sub, Int.cast_ofNat_Int, Int.reduceLT, Int.reduceLE, Int.le_refl, Int.reduceBEq, Int.reduceEq, beq_self_eq_true, Int.reduceToNat, bne, Bool.not_true, Bool.not_false, Bool.true_and, Bool.false_and, Bool.and_true, Bool.and_false, Bool.true_or, Bool.false_or, Bool.or_true, Bool.or_false, go_sem, ↓reduceIte, Nat.reduceEqDiff, Nat.reduceAdd, Nat.reduceLeDiff, Nat.reduceMul, Nat.reduceBEq, Nat.reduceBneDiff, Nat.reduceLT, Nat.reduceSub, Bool.false_eq_true, List.cons_append, List.nil_append, Int.ofNat_lt, Int.natCast_nonneg]
      exact D.Le.of_eq hS.symm
end Go.Ax
