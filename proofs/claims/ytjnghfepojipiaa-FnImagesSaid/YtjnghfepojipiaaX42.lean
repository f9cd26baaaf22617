/- Contracts of functions of the seat, proved over the engine. No condition. -/
import Derived.Test.YtjnghfepojipiaaX41
set_option linter.unusedSimpArgs false
set_option linter.unusedVariables false
set_option linter.unnecessarySimpa false
namespace Go.Ax
set_option linter.unusedSimpArgs false
set_option maxRecDepth 20000
set_option maxHeartbeats 4000000
def sqR (n : Nat) (A : Rel) : Nat → Rel
 | 0 => fun x y => x == y || A x y
 | k + 1 => dotR n (sqR n A k) (sqR n A k)
theorem warR_mono {A : Rel} {k x y : Nat} (h : warR A k x y = true) : warR A (k + 1) x y = true := by simp [warR, h]
theorem warR_le {A : Rel} {k m x y : Nat} (hm : k ≤ m) (h : warR A k x y = true) : warR A m x y = true := by
 induction hm with
 | refl => exact h
 | step _ ih => exact warR_mono ih
theorem warR_trans {A : Rel} : ∀ {k x z y : Nat}, z < k → warR A k x z = true → warR A k z y = true → warR A k x y = true
 | 0, _, _, _, h, _, _ => by omega
 | k + 1, x, z, y, hz, h1, h2 => by
  simp only [warR, Bool.or_eq_true, Bool.and_eq_true] at h1 h2 ⊢
  by_cases e : z = k
  ·subst e
   refine .inr ⟨?_, ?_⟩
   ·rcases h1 with h | h
    ·exact h
    ·exact h.1
   ·rcases h2 with h | h
    ·exact h
    ·exact h.2
  ·have hz' : z < k := by omega
   rcases h1 with h1 | ⟨h1, h1'⟩
   ·rcases h2 with h2 | ⟨h2, h2'⟩
    ·exact .inl (warR_trans hz' h1 h2)
    ·exact .inr ⟨warR_trans hz' h1 h2, h2'⟩
   ·rcases h2 with h2 | ⟨h2, h2'⟩
    ·exact .inr ⟨h1, warR_trans hz' h1' h2⟩
    ·exact .inr ⟨h1, h2'⟩
theorem dotR_true {n : Nat} {A B : Rel} {x y : Nat} : dotR n A B x y = true ↔ ∃ z, z < n ∧ A x z = true ∧ B z y = true := by
 simp only [dotR, dotU, List.any_eq_true, List.mem_range, Bool.and_eq_true]
theorem sqR_refl {n : Nat} {A : Rel} : ∀ {k x : Nat}, x < n → sqR n A k x x = true
 | 0, x, _ => by simp [sqR]
 | k + 1, x, h => dotR_true.2 ⟨x, h, sqR_refl h, sqR_refl h⟩
theorem sqR_of_war {n : Nat} {A : Rel} : ∀ {k x y : Nat}, k ≤ n → x < n → y < n → warR A k x y = true → sqR n A k x y = true
 | 0, x, y, _, _, _, h => by simpa [sqR, warR, or_comm] using h
 | k + 1, x, y, hk, hx, hy, h => by
  simp only [warR, Bool.or_eq_true, Bool.and_eq_true] at h
  rcases h with h | ⟨h1, h2⟩
  ·exact dotR_true.2 ⟨y, hy, sqR_of_war (by omega) hx hy h, sqR_refl hy⟩
  ·exact dotR_true.2 ⟨k, by omega, sqR_of_war (by omega) hx (by omega) h1, sqR_of_war (by omega) (by omega) hy h2⟩
theorem war_of_sqR {n : Nat} {A : Rel} : ∀ {k x y : Nat}, x < n → y < n → sqR n A k x y = true → warR A n x y = true
 | 0, x, y, _, _, h => warR_le (Nat.zero_le n) (by simpa [sqR, warR, or_comm] using h)
 | k + 1, x, y, hx, hy, h => by
  obtain ⟨z, hz, h1, h2⟩ := dotR_true.1 h
  exact warR_trans hz (war_of_sqR hx hz h1) (war_of_sqR hz hy h2)
theorem sqR_star {n : Nat} {A : Rel} : rD n (sqR n A n) = rD n (starR n A) := rD_congr fun x y hx hy => by
 cases h : starR n A x y with
 | true => exact sqR_of_war (Nat.le_refl n) hx hy h
 | false =>
  cases h2 : sqR n A n x y with
  | false => rfl
  | true => rw [starR, war_of_sqR hx hy h2] at h; cases h
theorem kind_len {m : Mo} {k v : Int} {ks : List Ex} (h : KindOk m k v ks) : ks.length ≤ 2 := by
 cases h <;> simp_all
def rKids (n : Nat) (rs : List Rel) : D := .ls (some false) 1 (rs.map fun R => .ls (some false) 1 (rD n R))
theorem nat_beq {x y : Nat} : ((x : Int) == (y : Int)) = (x == y) := by
 by_cases h : x = y
 ·subst h; rw [beq_self_eq_true, beq_self_eq_true]
 ·rw [beq_false_of_ne h, beq_false_of_ne (fun e => h (by omega))]
theorem at0 {a : D} {l : List D} : D.at (a :: l) 0 = a := rfl
theorem at1 {a b : D} {l : List D} : D.at (a :: b :: l) 1 = b := rfl

def k_relation1 : RC := (.seq (.reg false [⟨none, .mv 6 (.c (.sc (.bool false)))⟩]) ((.seq (.reg false [⟨none, .fa 7 4 (.t 2)⟩, ⟨none, .ld 8 false 1 (.t 7)⟩, ⟨none, .fa 9 1 (.t 3)⟩, ⟨none, .ld 10 false 1 (.t 9)⟩, ⟨none, .ia 11 1 (.t 8) (.t 10)⟩, ⟨none, .ld 12 false 1 (.t 11)⟩, ⟨none, .mv 13 (.t 0)⟩, ⟨none, .ia 14 1 (.t 12) (.t 13)⟩, ⟨none, .ld 15 false 1 (.t 14)⟩, ⟨none, .mv 16 (.t 1)⟩, ⟨none, .ia 17 1 (.t 15) (.t 16)⟩, ⟨none, .ld 18 false 1 (.t 17)⟩, ⟨none, .mv 6 (.t 18)⟩]) (.ret))))
def K_relation1 (P : Program) (fno : Nat) : Prop := ∀ (m : Mo) (n : Nat) (k v : Int) (nn : Option Bool) (ks : List Ex) (x y : Nat) (hM : MoOk m n) (hx : x < n) (hy : y < n) (h0 : 0 ≤ v) (h1 : v.toNat < m.2.2.2.2.length), AF P fno [eI x, eI y, .pt (eM m) 0, .pt (eE (.mk k v nn ks)) 0] (.own (eB (relOf (actOf m v) x y)))
theorem a_relation1 {P : Program} (hm : P.follows .mixedOrders = true) {g : Nat} (hr : resF P g = some (19, k_relation1, [.t 6])) : K_relation1 P g := by
 intro m n k v nn ks x y hM hx hy h0 h1
 obtain ⟨gs, p, T, A⟩ := m
 obtain rfl : p = n := hM.pts
 have h1' := nat_lt_of' h0 h1
 have t1 := at_mapD (f := eS 1 (eS 1 eB)) (d := (none, [])) h1
 have t2 := hM.asq _ (getD_mem (d := (none, [])) h1)
 have t3 := t2.at hx
 have t4 := t2.at2 hx hy
 have t5 := t2.len
 have t6 := t2.rows hx
 simp only at h1 h1' t1 t2 t3 t4 t5 t6
 rw [eE_mk]
 refine af_of_res hr hm rfl fun hb => ?_
 simp +contextual -implicitDefEqProofs only [k_relation1, t1, t3, t4, t5, t6, h0, h1', hx, hy, eM, eS, eI, D.size, D.sizeL, D.sub, D.isAg, go_sem, eB, ↓reduceIte, Nat.reduceEqDiff, Nat.reduceAdd, Nat.reduceLeDiff, Nat.reduceLT, Int.ofNat_lt, List.length_map, Int.natCast_nonneg]
 exact D.Le.refl _

def k_relation2 : RC := (.seq (.reg false [⟨none, .mv 5 (.c (.sc (.bool false)))⟩]) ((.seq (.reg false [⟨none, .mv 6 (.t 0)⟩, ⟨none, .mv 7 (.t 1)⟩, ⟨none, .bin 8 .eql (.t 6) (.t 7)⟩, ⟨none, .mv 9 (.t 8)⟩, ⟨some (9, false), .ld 10 false 1 (.t 2)⟩, ⟨some (9, false), .ia 11 1 (.t 10) (.c (.sc (.int .i64 0)))⟩, ⟨some (9, false), .ld 12 false 1 (.t 11)⟩, ⟨some (9, false), .mv 13 (.t 0)⟩, ⟨some (9, false), .ia 14 1 (.t 12) (.t 13)⟩, ⟨some (9, false), .ld 15 false 1 (.t 14)⟩, ⟨some (9, false), .mv 16 (.t 1)⟩, ⟨some (9, false), .ia 17 1 (.t 15) (.t 16)⟩, ⟨some (9, false), .ld 18 false 1 (.t 17)⟩, ⟨none, .pick 19 (.t 9) (.c (.sc (.bool true))) (.t 18)⟩, ⟨none, .mv 5 (.t 19)⟩]) (.ret))))
def K_relation2 (P : Program) (fno : Nat) : Prop := ∀ (n : Nat) (R : Rel) (x y : Nat) (hx : x < n) (hy : y < n), AF P fno [eI x, eI y, .pt (rKids n [R]) 0] (.own (eB (x == y || R x y)))
theorem a_relation2 {P : Program} (hm : P.follows .mixedOrders = true) {g : Nat} (hr : resF P g = some (20, k_relation2, [.t 5])) : K_relation2 P g := by
 intro n R x y hx hy
 have b1 := rD_at (R := R) hx
 have b2 := rRow_at (f := R x) hy
 refine af_of_res hr hm rfl fun hb => ?_
 cases hv : (x == y)
 all_goals
  simp +contextual -implicitDefEqProofs only [k_relation2, rKids, at0, b1, b2, hx, hy, nat_beq, hv, rD_len, rRow_len, eI, D.size, D.sub, Int.cast_ofNat_Int, Int.reduceLT, Int.le_refl, D.isAg, List.map_nil, List.map_cons, List.length_cons, List.length_nil, go_sem, eB, ↓reduceIte, Nat.reduceEqDiff, Nat.reduceAdd, Nat.reduceLeDiff, Nat.reduceLT, Int.ofNat_lt, Int.natCast_nonneg]
 all_goals rfl

def k_relation3 : RC := (.seq (.reg false [⟨none, .mv 7 (.c (.sc (.bool false)))⟩]) ((.seq ((.seq (.reg false [⟨none, .fa 8 0 (.t 2)⟩, ⟨none, .ld 9 false 1 (.t 8)⟩]) (.blk 0 ((.seq (.reg false [⟨none, .bin 11 .eql (.t 9) (.c (.sc (.int .i64 2)))⟩, ⟨none, .mv 10 (.t 11)⟩]) (.cond (.t 10) ((.seq (.reg false [⟨none, .mv 12 (.t 0)⟩, ⟨none, .mv 13 (.t 1)⟩, ⟨none, .bin 14 .eql (.t 12) (.t 13)⟩, ⟨none, .mv 7 (.t 14)⟩]) (.ret))) ((.seq (.reg false [⟨none, .bin 16 .eql (.t 9) (.c (.sc (.int .i64 3)))⟩, ⟨none, .mv 15 (.t 16)⟩]) (.cond (.t 15) ((.seq (.reg false [⟨none, .mv 17 (.t 0)⟩, ⟨none, .mv 18 (.t 1)⟩, ⟨none, .bin 19 .eql (.t 17) (.t 18)⟩, ⟨none, .mv 20 (.t 19)⟩, ⟨some (20, true), .fa 21 3 (.t 3)⟩, ⟨some (20, true), .ld 22 false 1 (.t 21)⟩, ⟨some (20, true), .fa 23 1 (.t 2)⟩, ⟨some (20, true), .ld 24 false 1 (.t 23)⟩, ⟨some (20, true), .ia 25 1 (.t 22) (.t 24)⟩, ⟨some (20, true), .ld 26 false 1 (.t 25)⟩, ⟨some (20, true), .mv 27 (.t 0)⟩, ⟨some (20, true), .ia 28 1 (.t 26) (.t 27)⟩, ⟨some (20, true), .ld 29 false 1 (.t 28)⟩, ⟨none, .pick 30 (.t 20) (.t 29) (.c (.sc (.bool false)))⟩, ⟨none, .mv 7 (.t 30)⟩]) (.ret))) ((.seq (.reg false [⟨none, .bin 32 .eql (.t 9) (.c (.sc (.int .i64 5)))⟩, ⟨none, .mv 31 (.t 32)⟩]) (.cond (.t 31) ((.seq (.reg false [⟨none, .mv 33 (.t 0)⟩, ⟨none, .mv 34 (.t 1)⟩, ⟨none, .bin 35 .eql (.t 33) (.t 34)⟩, ⟨none, .mv 36 (.t 35)⟩, ⟨some (36, true), .ld 37 false 1 (.t 4)⟩, ⟨some (36, true), .ia 38 1 (.t 37) (.c (.sc (.int .i64 0)))⟩, ⟨some (36, true), .ld 39 false 1 (.t 38)⟩, ⟨some (36, true), .mv 40 (.t 0)⟩, ⟨some (36, true), .ia 41 1 (.t 39) (.t 40)⟩, ⟨some (36, true), .ld 42 false 1 (.t 41)⟩, ⟨some (36, true), .mv 43 (.t 1)⟩, ⟨some (36, true), .ia 44 1 (.t 42) (.t 43)⟩, ⟨some (36, true), .ld 45 false 1 (.t 44)⟩, ⟨some (36, true), .un 46 .not (.t 45)⟩, ⟨none, .pick 47 (.t 36) (.t 46) (.c (.sc (.bool false)))⟩, ⟨none, .mv 7 (.t 47)⟩]) (.ret))) ((.seq (.reg false [⟨none, .bin 49 .eql (.t 9) (.c (.sc (.int .i64 6)))⟩, ⟨none, .mv 48 (.t 49)⟩]) (.cond (.t 48) ((.seq (.reg false [⟨none, .ld 50 false 1 (.t 4)⟩, ⟨none, .ia 51 1 (.t 50) (.c (.sc (.int .i64 0)))⟩, ⟨none, .ld 52 false 1 (.t 51)⟩, ⟨none, .mv 53 (.t 0)⟩, ⟨none, .ia 54 1 (.t 52) (.t 53)⟩, ⟨none, .ld 55 false 1 (.t 54)⟩, ⟨none, .mv 56 (.t 1)⟩, ⟨none, .ia 57 1 (.t 55) (.t 56)⟩, ⟨none, .ld 58 false 1 (.t 57)⟩, ⟨none, .mv 59 (.t 58)⟩, ⟨some (59, false), .ld 60 false 1 (.t 4)⟩, ⟨some (59, false), .ia 61 1 (.t 60) (.c (.sc (.int .i64 1)))⟩, ⟨some (59, false), .ld 62 false 1 (.t 61)⟩, ⟨some (59, false), .mv 63 (.t 0)⟩, ⟨some (59, false), .ia 64 1 (.t 62) (.t 63)⟩, ⟨some (59, false), .ld 65 false 1 (.t 64)⟩, ⟨some (59, false), .mv 66 (.t 1)⟩, ⟨some (59, false), .ia 67 1 (.t 65) (.t 66)⟩, ⟨some (59, false), .ld 68 false 1 (.t 67)⟩, ⟨none, .pick 69 (.t 59) (.c (.sc (.bool true))) (.t 68)⟩, ⟨none, .mv 7 (.t 69)⟩]) (.ret))) (.skip)))))))))))))))) ((.seq (.reg false [⟨none, .mv 7 (.c (.sc (.bool false)))⟩]) (.ret))))))
def K_relation3 (P : Program) (fno : Nat) : Prop := ∀ (m : Mo) (n : Nat) (k v : Int) (nn : Option Bool) (ks : List Ex) (x y : Nat) (hM : MoOk m n) (rs : List Rel) (hx : x < n) (hy : y < n) (hl : rs.length = ks.length) (hK : KindOk m k v ks) (hk4 : k ≠ 4 ∧ k ≠ 7 ∧ k ≠ 8), AF P fno [eI x, eI y, .pt (eE (.mk k v nn ks)) 0, .pt (eM m) 0, .pt (rKids n rs) 0] (.own (eB (relOp m k v rs x y)))
theorem a_relation3 {P : Program} (hm : P.follows .mixedOrders = true) {g : Nat} (hr : resF P g = some (70, k_relation3, [.t 7])) : K_relation3 P g := by
 intro m n k v nn ks x y hM rs hx hy hl hK hk4
 obtain ⟨gs, p, T, A⟩ := m
 obtain rfl : p = n := hM.pts
 rw [eE_mk]
 refine af_of_res hr hm rfl fun hb => ?_
 cases hv : (x == y)
 all_goals
 cases hK with
 | zero hk hks =>
  subst hk hks
  rw [show relOp (gs, (n : Int), T, A) 1 v rs x y = false by simp [relOp, noneR]]
  simp +contextual -implicitDefEqProofs only [k_relation3, eM, eS, eI, D.size, D.sizeL, D.sub, Int.reduceBEq, D.isAg, List.map_nil, go_sem, eB, ↓reduceIte, Nat.reduceEqDiff, Nat.reduceAdd, Nat.reduceLeDiff, Nat.reduceLT]
 | one hk hks =>
  subst hk hks
  rw [show relOp (gs, (n : Int), T, A) 2 v rs x y = (x == y && true) by simp [relOp, diagR], hv]
  simp +contextual -implicitDefEqProofs only [k_relation3, nat_beq, hv, eM, eS, eI, D.size, D.sizeL, D.sub, beq_self_eq_true, D.isAg, List.map_nil, go_sem, eB, ↓reduceIte, Nat.reduceEqDiff, Nat.reduceAdd, Nat.reduceLeDiff, Nat.reduceLT]
 | test hk hks h0 h1 =>
  subst hk hks
  have h1' := nat_lt_of' h0 h1
  have t1 := at_mapD (f := eS 1 eB) (d := (none, [])) h1
  have t2 := hM.tr _ (getD_mem (d := (none, [])) h1)
  simp only at h1 h1' t1 t2
  have t5 : x < (T.2.getD v.toNat (none, [])).2.length := by omega
  have t3 := at_mapD (f := eB) (d := false) t5
  have t4 : (T.2.getD v.toNat (none, [])).2.getD x false = testOf (gs, (n : Int), T, A) v x := rfl
  rw [t4] at t3
  rw [show relOp (gs, (n : Int), T, A) 3 v rs x y = (x == y && testOf (gs, (n : Int), T, A) v x) by simp [relOp, diagR], hv]
  simp +contextual -implicitDefEqProofs only [k_relation3, nat_beq, hv, t1, t2, t3, h0, h1', eM, eS, eI, D.size, D.sizeL, D.sub, Int.reduceBEq, beq_self_eq_true, D.isAg, List.map_nil, go_sem, eB, ↓reduceIte, Nat.reduceEqDiff, Nat.reduceAdd, Nat.reduceLeDiff, Nat.reduceLT, Int.ofNat_lt, List.length_map, Int.natCast_nonneg]
  all_goals exact hx
 | nt hk a hks =>
  subst hk hks
  obtain ⟨R0, rfl⟩ : ∃ R0, rs = [R0] := by
   match rs, hl with
   | [a], _ => exact ⟨a, rfl⟩
  have b1 := rD_at (R := R0) hx
  have b2 := rRow_at (f := R0 x) hy
  rw [show relOp (gs, (n : Int), T, A) 5 v [R0] x y = (x == y && !(R0 x y)) by (by_cases e : x = y; (subst e; simp [relOp, diagR]); (simp [relOp, diagR, beq_false_of_ne e])), hv]
  simp +contextual -implicitDefEqProofs only [k_relation3, rKids, at0, nat_beq, hv, b1, b2, hx, hy, rD_len, rRow_len, eM, eS, eI, D.size, D.sizeL, D.sub, Int.cast_ofNat_Int, Int.reduceLT, Int.le_refl, Int.reduceBEq, beq_self_eq_true, D.isAg, List.map_nil, List.map_cons, List.length_cons, List.length_nil, go_sem, eB, ↓reduceIte, Nat.reduceEqDiff, Nat.reduceAdd, Nat.reduceLeDiff, Nat.reduceLT, Int.ofNat_lt, Int.natCast_nonneg]
 | sum hk a b hks =>
  subst hk hks
  obtain ⟨R0, R1, rfl⟩ : ∃ R0 R1, rs = [R0, R1] := by
   match rs, hl with
   | [a, b], _ => exact ⟨a, b, rfl⟩
  have b1 := rD_at (R := R0) hx
  have b2 := rRow_at (f := R0 x) hy
  have b3 := rD_at (R := R1) hx
  have b4 := rRow_at (f := R1 x) hy
  rw [show relOp (gs, (n : Int), T, A) 6 v [R0, R1] x y = (R0 x y || R1 x y) by simp [relOp]]
  cases hw : R0 x y
  all_goals
   rw [hw] at b2
   simp +contextual -implicitDefEqProofs only [k_relation3, rKids, at0, at1, b1, b2, b3, b4, hx, hy, rD_len, rRow_len, eM, eS, eI, D.size, D.sizeL, D.sub, Int.cast_ofNat_Int, Int.reduceLT, Int.reduceLE, Int.le_refl, Int.reduceBEq, beq_self_eq_true, Int.reduceToNat, D.isAg, List.map_nil, List.map_cons, List.length_cons, List.length_nil, go_sem, eB, ↓reduceIte, Nat.reduceEqDiff, Nat.reduceAdd, Nat.reduceLeDiff, Nat.reduceLT, Int.ofNat_lt, Int.natCast_nonneg]
 | act hk => exact absurd hk hk4.1
 | dot hk => exact absurd hk hk4.2.1
 | star hk => exact absurd hk hk4.2.2

def k_relation (g f1 f2 f3 f4 f5 : Nat) : RC := (.seq (.reg false [⟨none, .box 2 5 (.t 0)⟩, ⟨none, .box 3 3 (.t 1)⟩, ⟨none, .mv 4 (.c (.ls (some true) 1 []))⟩]) ((.seq (.reg false [⟨none, .bs 9 1 (.ls (some true) 1 []) 0 []⟩, ⟨none, .zer 5 1 (.ls (some true) 1 [])⟩, ⟨none, .st 1 (.t 5) (.t 9)⟩]) ((.seq ((.seq (.reg false [⟨none, .fa 10 2 (.t 3)⟩, ⟨none, .ld 11 false 1 (.t 10)⟩, ⟨none, .len 12 (.t 11)⟩, ⟨none, .mv 13 (.c (.sc (.int .i64 0)))⟩]) (.blk 0 (.loop ((.seq (.reg false [⟨none, .bin 14 .lss (.t 13) (.t 12)⟩]) ((.seq (.cond (.t 14) (.skip) (.exit 0)) ((.seq (.blk 1 ((.seq (.reg false [⟨none, .ia 15 3 (.t 11) (.t 13)⟩, ⟨none, .ld 16 true 3 (.t 15)⟩, ⟨none, .zer 7 3 (.ag [(.sc (.int .i64 0)), (.sc (.int .i64 0)), (.ls (some true) 3 [])])⟩, ⟨none, .st 3 (.t 7) (.t 16)⟩]) (.reg true [⟨none, .ld 17 false 1 (.t 5)⟩, ⟨none, .ld 18 true 5 (.t 2)⟩, ⟨none, .ld 19 true 3 (.t 7)⟩, ⟨none, .call (some 20) g [(.t 18), (.t 19)]⟩, ⟨none, .bs 21 1 (.ls (some true) 1 []) 1 [(0, (.t 20))]⟩, ⟨none, .app 22 1 24 (.t 17) (.t 21)⟩, ⟨none, .st 1 (.t 5) (.t 22)⟩])))) (.reg false [⟨none, .bin 23 .add (.t 13) (.c (.sc (.int .i64 1)))⟩, ⟨none, .mv 13 (.t 23)⟩]))))))))))) ((.seq ((.seq (.reg false [⟨none, .fa 24 0 (.t 3)⟩, ⟨none, .ld 25 false 1 (.t 24)⟩]) (.blk 2 ((.seq (.reg false [⟨none, .bin 27 .eql (.t 25) (.c (.sc (.int .i64 4)))⟩, ⟨none, .mv 26 (.t 27)⟩]) (.cond (.t 26) ((.seq (.reg false [⟨none, .fa 28 2 (.t 2)⟩, ⟨none, .ld 29 false 1 (.t 28)⟩, ⟨none, .mkf 30 f3 [(.t 2), (.t 3)]⟩, ⟨none, .call (some 31) f1 [(.t 29), (.t 30)]⟩, ⟨none, .mv 4 (.t 31)⟩]) (.ret))) ((.seq (.reg false [⟨none, .bin 33 .eql (.t 25) (.c (.sc (.int .i64 7)))⟩, ⟨none, .mv 32 (.t 33)⟩]) (.cond (.t 32) ((.seq (.reg true [⟨none, .ld 34 false 1 (.t 5)⟩, ⟨none, .ia 35 1 (.t 34) (.c (.sc (.int .i64 0)))⟩, ⟨none, .ld 36 false 1 (.t 35)⟩, ⟨none, .ld 37 false 1 (.t 5)⟩, ⟨none, .ia 38 1 (.t 37) (.c (.sc (.int .i64 1)))⟩, ⟨none, .ld 39 false 1 (.t 38)⟩, ⟨none, .call (some 40) f2 [(.t 36), (.t 39)]⟩, ⟨none, .mv 4 (.t 40)⟩]) (.ret))) ((.seq (.reg false [⟨none, .bin 42 .eql (.t 25) (.c (.sc (.int .i64 8)))⟩, ⟨none, .mv 41 (.t 42)⟩]) (.cond (.t 41) ((.seq (.reg false [⟨none, .fa 43 2 (.t 2)⟩, ⟨none, .ld 44 false 1 (.t 43)⟩, ⟨none, .mkf 45 f4 [(.t 5)]⟩, ⟨none, .call (some 46) f1 [(.t 44), (.t 45)]⟩, ⟨none, .mv 8 (.t 46)⟩]) ((.seq ((.seq (.reg false [⟨none, .fa 47 2 (.t 2)⟩, ⟨none, .ld 48 false 1 (.t 47)⟩, ⟨none, .mv 49 (.c (.sc (.int .i64 0)))⟩]) (.blk 3 (.loop ((.seq (.reg false [⟨none, .bin 50 .lss (.t 49) (.t 48)⟩]) ((.seq (.cond (.t 50) (.skip) (.exit 3)) ((.seq (.blk 4 (.reg false [⟨none, .mv 51 (.t 8)⟩, ⟨none, .mv 52 (.t 8)⟩, ⟨none, .call (some 53) f2 [(.t 51), (.t 52)]⟩, ⟨none, .mv 8 (.t 53)⟩])) (.reg false [⟨none, .bin 54 .add (.t 49) (.c (.sc (.int .i64 1)))⟩, ⟨none, .mv 49 (.t 54)⟩]))))))))))) ((.seq (.reg false [⟨none, .mv 55 (.t 8)⟩, ⟨none, .mv 4 (.t 55)⟩]) (.ret))))))) (.skip))))))))))))) ((.seq (.reg false [⟨none, .fa 56 2 (.t 2)⟩, ⟨none, .ld 57 false 1 (.t 56)⟩, ⟨none, .mkf 58 f5 [(.t 3), (.t 2), (.t 5)]⟩, ⟨none, .call (some 59) f1 [(.t 57), (.t 58)]⟩, ⟨none, .mv 4 (.t 59)⟩]) (.ret))))))))))
def K_relation (P : Program) (fno : Nat) : Prop := ∀ (m : Mo) (n : Nat) (e : Ex) (hM : MoOk m n) (hT : treeE m.1 e = true), AF P fno [eM m, eE e] (.own (.ls (some false) 1 (rD n (relE m e))))
theorem a_relation {P : Program} (hm : P.follows .mixedOrders = true) {g f1 f2 f3 f4 f5 : Nat} (hr : resF P g = some (60, k_relation g f1 f2 f3 f4 f5, [.t 4])) (hc1 : K_tableB P f1) (hc2 : K_composed P f2) (hc3 : K_relation1 P f3) (hc4 : K_relation2 P f4) (hc5 : K_relation3 P f5) : K_relation P g := by
 intro m n e hM hT
 obtain ⟨gs, p, T, A⟩ := m
 obtain rfl : p = n := hM.pts
 refine Ex.ind (p := fun e => treeE gs e = true → AF P g [eM (gs, (n : Int), T, A), eE e] (.own (.ls (some false) 1 (rD n (relE (gs, (n : Int), T, A) e))))) (fun k v nn ks ih hT => ?_) e hT
 rw [treeE_mk, Bool.and_eq_true, List.all_eq_true] at hT
 have n1 := hM.n1
 have n8 := hM.n8
 have hK := kind_ok hM hT.1
 rw [eE_mk, relE_mk]
 refine af_of_res hr hm rfl fun hb => ?_
 have hkl : ks.length ≤ 2 := kind_len hK
 simp +contextual -implicitDefEqProofs only [k_relation, at0, eM, eS, eI, D.size, D.sizeL, D.sub, beq_self_eq_true, D.isAg, List.map_nil, List.length_cons, List.length_nil, go_sem, ↓reduceIte, Nat.reduceEqDiff, Nat.reduceAdd, Nat.reduceLeDiff, Nat.reduceBEq, Nat.reduceBneDiff, Nat.reduceLT, List.length_map]
 refine vc_onU (α := Nat) [7, 13, 14, 15, 16, 17, 18, 19, 20, 21, 22, 23] (fun i => [(13, .im none (.sc (.int .i64 i)))]) (fun i => [(5, .ar true (some false) 1 [.ls (some false) 1 ((ks.take i).map fun e => .ls (some false) 1 (rD n (relE (gs, (n : Int), T, A) e)))]), (3, .ar false (some false) 3 [.ag [.sc (.int .i64 k), .sc (.int .i64 v), .ls nn 3 (ks.map eE)]]), (2, .ar false (some false) 5 [.ag [.sc (.int .i64 gs.1), .sc (.int .i64 gs.2), .sc (.int .i64 n), .ls T.1 1 (T.2.map (eS 1 eB)), .ls A.1 1 (A.2.map (eS 1 (eS 1 eB)))]])]) (fun i => i ≤ ks.length) (fun i => ks.length - i) 0 (Ent.to [] (by simp only [go_sem]; rfl) rfl (by simp) (by rfl) (by simp only [subEnv, go_sem, ↓reduceIte, Nat.reduceEqDiff, keep, memN] <;> simp)) (Nat.zero_le _) ?_
 intro i hi0
 by_cases hi : i < ks.length
 ·have e1 := at_map (f := eE) hi
  have hx := List.getElem_mem hi
  have ihx := ih ks[i] hx (hT.2 _ hx)
  obtain ⟨ek, en, enn, eks, hxk⟩ := Ex.ex ks[i]
  rw [hxk, eE_mk] at e1 ihx
  simp +contextual -implicitDefEqProofs only [hi, e1, D.put, D.size, D.sizeL, D.isAg, modeOf, noPtrs, List.length_map, D.sub, beq_self_eq_true, List.map_nil, List.map_cons, List.length_cons, List.length_nil, go_sem, ↓reduceIte, Nat.reduceEqDiff, Nat.reduceAdd, Nat.reduceLeDiff, Nat.reduceBEq, Nat.reduceBneDiff, Nat.reduceLT, Int.ofNat_lt, Int.natCast_nonneg]
  refine callQ_self (ds := [eM (gs, (n : Int), T, A), .ag [.sc (.int .i64 ek), .sc (.int .i64 en), .ls enn 3 (eks.map eE)]]) (by rfl) ihx ?_
  simp +contextual -implicitDefEqProofs only [D.put, D.size, D.isAg, modeOf, noPtrs, List.length_map, D.sub, beq_self_eq_true, List.map_nil, List.map_cons, List.length_cons, List.length_nil, go_sem, ↓reduceIte, Nat.reduceEqDiff, Nat.reduceLeDiff, Nat.reduceMul, Nat.reduceBEq, Nat.reduceBneDiff, Nat.reduceLT]
  refine ⟨rfl, ⟨by (try simp); omega, by unfold maxEl; (try simp); omega, by simp [D.size]⟩, i + 1, by omega, by omega, ?_⟩
  rw [wrap_i64 (by omega) (by omega)]
  exact Ent.to [7] (by simp only [go_sem, ↓reduceIte, Nat.reduceEqDiff, Nat.reduceBEq]; rfl) rfl (by simp [map_take hi, hxk]) (by rfl) (by simp only [subEnv, go_sem, ↓reduceIte, Nat.reduceEqDiff] <;> simp)
 ·obtain rfl : i = ks.length := by omega
  have hxy : ∀ x y : Nat, ((x : Int) == (y : Int)) = (x == y) := fun x y => nat_beq
  rw [List.take_length]
  cases hK with
  | act hk hks h0 h1 =>
   subst hk hks
   rw [show relOp (gs, (n : Int), T, A) 4 v ([].map (relE (gs, (n : Int), T, A))) = relOf (actOf (gs, (n : Int), T, A) v) by simp [relOp]]
   simp +contextual -implicitDefEqProofs only [D.sub, Int.cast_ofNat_Int, Int.reduceLT, beq_self_eq_true, D.isAg, List.map_nil, List.map_cons, List.length_nil, go_sem, ↓reduceIte, Nat.reduceEqDiff, Nat.reduceAdd, Nat.reduceLeDiff, Nat.reduceLT]
   refine callQ_self (ds := [eI n, .fn f3 [.pt (eM (gs, (n : Int), T, A)) 0, .pt (eE (.mk 4 v nn [])) 0]]) (by rw [eE_mk]; rfl) (hc1 n f3 _ (relOf (actOf (gs, (n : Int), T, A) v)) (by omega) (fun x y hx hy => hc3 (gs, (n : Int), T, A) n 4 v nn [] x y hM hx hy h0 h1)) ?_
   rw [show ((some false, tabL n fun x => (some false, tabL n (relOf (actOf (gs, (n : Int), T, A) v) x))) : SL (SL Bool)) = rTab n (relOf (actOf (gs, (n : Int), T, A) v)) from rfl, rD_eq]
   simp +contextual -implicitDefEqProofs only [go_sem, ↓reduceIte, Nat.reduceEqDiff, Nat.reduceBEq, Nat.reduceBneDiff]
  | dot hk a b hks =>
   subst hk hks
   rw [show relOp (gs, (n : Int), T, A) 7 v ([a, b].map (relE (gs, (n : Int), T, A))) = dotR n (relE (gs, (n : Int), T, A) a) (relE (gs, (n : Int), T, A) b) by simp [relOp]]
   simp +contextual -implicitDefEqProofs only [at0, at1, D.sub, Int.cast_ofNat_Int, Int.reduceLT, Int.reduceLE, Int.le_refl, Int.reduceBEq, beq_self_eq_true, Int.reduceToNat, D.isAg, List.map_nil, List.map_cons, List.length_cons, List.length_nil, go_sem, ↓reduceIte, Nat.reduceEqDiff, Nat.reduceAdd, Nat.reduceLeDiff, Nat.reduceLT]
   refine callQ_self (ds := [.ls (some false) 1 (rD n (relE (gs, (n : Int), T, A) a)), .ls (some false) 1 (rD n (relE (gs, (n : Int), T, A) b))]) (by rfl) (comp_D hc2 (by omega)) ?_
   simp +contextual -implicitDefEqProofs only [go_sem, ↓reduceIte, Nat.reduceEqDiff, Nat.reduceBEq, Nat.reduceBneDiff]
  | star hk a hks =>
   subst hk hks
   rw [show relOp (gs, (n : Int), T, A) 8 v ([a].map (relE (gs, (n : Int), T, A))) = starR n (relE (gs, (n : Int), T, A) a) by simp [relOp]]
   simp +contextual -implicitDefEqProofs only [at0, D.sub, Int.cast_ofNat_Int, Int.reduceLT, Int.reduceBEq, beq_self_eq_true, D.isAg, List.map_nil, List.map_cons, List.length_cons, List.length_nil, go_sem, ↓reduceIte, Nat.reduceEqDiff, Nat.reduceAdd, Nat.reduceLeDiff, Nat.reduceLT]
   refine callQ_self (ds := [eI n, .fn f4 [.pt (rKids n [relE (gs, (n : Int), T, A) a]) 0]]) (by rfl) (hc1 n f4 _ (sqR n (relE (gs, (n : Int), T, A) a) 0) (by omega) (fun x y hx hy => hc4 n (relE (gs, (n : Int), T, A) a) x y hx hy)) ?_
   rw [show ((some false, tabL n fun x => (some false, tabL n (sqR n (relE (gs, (n : Int), T, A) a) 0 x))) : SL (SL Bool)) = rTab n (sqR n (relE (gs, (n : Int), T, A) a) 0) from rfl, rD_eq]
   simp +contextual -implicitDefEqProofs only [D.sub, D.isAg, go_sem, ↓reduceIte, Nat.reduceEqDiff, Nat.reduceAdd, Nat.reduceLeDiff, Nat.reduceBneDiff, Nat.reduceLT]
   refine vc_onU (α := Nat) [8, 46, 49, 50, 51, 52, 53, 54] (fun i => [(49, .im none (.sc (.int .i64 i))), (8, .tr 46)]) (fun i => [(46, .own (.ls (some false) 1 (rD n (sqR n (relE (gs, (n : Int), T, A) a) i)))), (5, .ar true (some false) 1 [.ls (some false) 1 [.ls (some false) 1 (rD n (relE (gs, (n : Int), T, A) a))]]), (3, .ar false (some false) 3 [.ag [.sc (.int .i64 8), .sc (.int .i64 v), .ls nn 3 [eE a]]]), (2, .ar false (some false) 5 [.ag [.sc (.int .i64 gs.1), .sc (.int .i64 gs.2), .sc (.int .i64 n), .ls T.1 1 (T.2.map (eS 1 eB)), .ls A.1 1 (A.2.map (eS 1 (eS 1 eB)))]])]) (fun i => i ≤ n) (fun i => n - i) 0 (Ent.to [] (by simp only [go_sem]; rfl) rfl (by simp) (by rfl) (by simp only [subEnv, go_sem, ↓reduceIte, Nat.reduceEqDiff, keep, memN] <;> simp)) (Nat.zero_le _) ?_
   intro i hi0
   by_cases hin : i < n
   ·simp +contextual -implicitDefEqProofs only [hin, List.map_nil, List.map_cons, go_sem, ↓reduceIte, Nat.reduceEqDiff, Int.ofNat_lt]
    refine callQ_self (ds := [.ls (some false) 1 (rD n (sqR n (relE (gs, (n : Int), T, A) a) i)), .ls (some false) 1 (rD n (sqR n (relE (gs, (n : Int), T, A) a) i))]) (by rfl) (comp_D hc2 (by omega)) ?_
    simp +contextual -implicitDefEqProofs only [go_sem, ↓reduceIte, Nat.reduceEqDiff, Nat.reduceBneDiff]
    refine ⟨i + 1, by omega, by omega, ?_⟩
    rw [wrap_i64 (by omega) (by omega)]
    refine Ent.trans (Ent.del _ 46) (Ent.trans (Ent.ren _ 53 46 [8] (.ls (some false) 1 (rD n (sqR n (relE (gs, (n : Int), T, A) a) (i + 1)))) (by rfl) (by rfl) (by simp; rfl)) ?_)
    exact Ent.to [] (by simp only [go_sem, List.map_cons, List.map_nil, ↓reduceIte, Nat.reduceEqDiff, Nat.reduceBEq]; rfl) rfl (by simp) (by rfl) (by simp only [subEnv, go_sem, ↓reduceIte, Nat.reduceEqDiff] <;> simp)
   ·obtain rfl : i = n := by omega
    simp +contextual -implicitDefEqProofs only [hin, beq_self_eq_true, go_sem, ↓reduceIte, Nat.reduceEqDiff, Nat.reduceBEq, Int.ofNat_lt]
    rw [sqR_star]
    exact D.Le.refl _
  | zero hk hks =>
   subst hk hks
   simp +contextual -implicitDefEqProofs only [at0, D.sub, Int.cast_ofNat_Int, Int.reduceLT, Int.reduceBEq, D.isAg, List.map_nil, List.map_cons, List.length_nil, go_sem, ↓reduceIte, Nat.reduceEqDiff, Nat.reduceAdd, Nat.reduceLeDiff, Nat.reduceLT]
   refine callQ_self (ds := [eI n, .fn f5 [.pt (eE (.mk 1 v nn [])) 0, .pt (eM (gs, (n : Int), T, A)) 0, .pt (rKids n []) 0]]) (by rw [eE_mk]; rfl) (hc1 n f5 _ (relOp (gs, (n : Int), T, A) 1 v []) (by omega) (fun x y hx hy => hc5 (gs, (n : Int), T, A) n 1 v nn [] x y hM [] hx hy rfl (.zero rfl rfl) (by decide))) ?_
   rw [show ((some false, tabL n fun x => (some false, tabL n (relOp (gs, (n : Int), T, A) 1 v [] x))) : SL (SL Bool)) = rTab n (relOp (gs, (n : Int), T, A) 1 v []) from rfl, rD_eq]
   simp +contextual -implicitDefEqProofs only [go_sem, ↓reduceIte, Nat.reduceEqDiff, Nat.reduceBEq, Nat.reduceBneDiff]
  | one hk hks =>
   subst hk hks
   simp +contextual -implicitDefEqProofs only [at0, D.sub, Int.cast_ofNat_Int, Int.reduceLT, Int.reduceBEq, D.isAg, List.map_nil, List.map_cons, List.length_nil, go_sem, ↓reduceIte, Nat.reduceEqDiff, Nat.reduceAdd, Nat.reduceLeDiff, Nat.reduceLT]
   refine callQ_self (ds := [eI n, .fn f5 [.pt (eE (.mk 2 v nn [])) 0, .pt (eM (gs, (n : Int), T, A)) 0, .pt (rKids n []) 0]]) (by rw [eE_mk]; rfl) (hc1 n f5 _ (relOp (gs, (n : Int), T, A) 2 v []) (by omega) (fun x y hx hy => hc5 (gs, (n : Int), T, A) n 2 v nn [] x y hM [] hx hy rfl (.one rfl rfl) (by decide))) ?_
   rw [show ((some false, tabL n fun x => (some false, tabL n (relOp (gs, (n : Int), T, A) 2 v [] x))) : SL (SL Bool)) = rTab n (relOp (gs, (n : Int), T, A) 2 v []) from rfl, rD_eq]
   simp +contextual -implicitDefEqProofs only [go_sem, ↓reduceIte, Nat.reduceEqDiff, Nat.reduceBEq, Nat.reduceBneDiff]
  | test hk hks h0 h1 =>
   subst hk hks
   simp +contextual -implicitDefEqProofs only [at0, D.sub, Int.cast_ofNat_Int, Int.reduceLT, Int.reduceBEq, D.isAg, List.map_nil, List.map_cons, List.length_nil, go_sem, ↓reduceIte, Nat.reduceEqDiff, Nat.reduceAdd, Nat.reduceLeDiff, Nat.reduceLT]
   refine callQ_self (ds := [eI n, .fn f5 [.pt (eE (.mk 3 v nn [])) 0, .pt (eM (gs, (n : Int), T, A)) 0, .pt (rKids n []) 0]]) (by rw [eE_mk]; rfl) (hc1 n f5 _ (relOp (gs, (n : Int), T, A) 3 v []) (by omega) (fun x y hx hy => hc5 (gs, (n : Int), T, A) n 3 v nn [] x y hM [] hx hy rfl (.test rfl rfl h0 h1) (by decide))) ?_
   rw [show ((some false, tabL n fun x => (some false, tabL n (relOp (gs, (n : Int), T, A) 3 v [] x))) : SL (SL Bool)) = rTab n (relOp (gs, (n : Int), T, A) 3 v []) from rfl, rD_eq]
   simp +contextual -implicitDefEqProofs only [go_sem, ↓reduceIte, Nat.reduceEqDiff, Nat.reduceBEq, Nat.reduceBneDiff]
  | nt hk a hks =>
   subst hk hks
   simp +contextual -implicitDefEqProofs only [at0, D.sub, Int.cast_ofNat_Int, Int.reduceLT, Int.reduceBEq, D.isAg, List.map_nil, List.map_cons, List.length_cons, List.length_nil, go_sem, ↓reduceIte, Nat.reduceEqDiff, Nat.reduceAdd, Nat.reduceLeDiff, Nat.reduceLT]
   refine callQ_self (ds := [eI n, .fn f5 [.pt (eE (.mk 5 v nn [a])) 0, .pt (eM (gs, (n : Int), T, A)) 0, .pt (rKids n [relE (gs, (n : Int), T, A) a]) 0]]) (by rw [eE_mk]; rfl) (hc1 n f5 _ (relOp (gs, (n : Int), T, A) 5 v [relE (gs, (n : Int), T, A) a]) (by omega) (fun x y hx hy => hc5 (gs, (n : Int), T, A) n 5 v nn [a] x y hM [relE (gs, (n : Int), T, A) a] hx hy rfl (.nt rfl a rfl) (by decide))) ?_
   rw [show ((some false, tabL n fun x => (some false, tabL n (relOp (gs, (n : Int), T, A) 5 v [relE (gs, (n : Int), T, A) a] x))) : SL (SL Bool)) = rTab n (relOp (gs, (n : Int), T, A) 5 v [relE (gs, (n : Int), T, A) a]) from rfl, rD_eq]
   simp +contextual -implicitDefEqProofs only [go_sem, ↓reduceIte, Nat.reduceEqDiff, Nat.reduceBEq, Nat.reduceBneDiff]
  | sum hk a b hks =>
   subst hk hks
   simp +contextual -implicitDefEqProofs only [at0, D.sub, Int.cast_ofNat_Int, Int.reduceLT, Int.reduceBEq, D.isAg, List.map_nil, List.map_cons, List.length_cons, List.length_nil, go_sem, ↓reduceIte, Nat.reduceEqDiff, Nat.reduceAdd, Nat.reduceLeDiff, Nat.reduceLT]
   refine callQ_self (ds := [eI n, .fn f5 [.pt (eE (.mk 6 v nn [a, b])) 0, .pt (eM (gs, (n : Int), T, A)) 0, .pt (rKids n [relE (gs, (n : Int), T, A) a, relE (gs, (n : Int), T, A) b]) 0]]) (by rw [eE_mk]; rfl) (hc1 n f5 _ (relOp (gs, (n : Int), T, A) 6 v [relE (gs, (n : Int), T, A) a, relE (gs, (n : Int), T, A) b]) (by omega) (fun x y hx hy => hc5 (gs, (n : Int), T, A) n 6 v nn [a, b] x y hM [relE (gs, (n : Int), T, A) a, relE (gs, (n : Int), T, A) b] hx hy rfl (.sum rfl a b rfl) (by decide))) ?_
   rw [show ((some false, tabL n fun x => (some false, tabL n (relOp (gs, (n : Int), T, A) 6 v [relE (gs, (n : Int), T, A) a, relE (gs, (n : Int), T, A) b] x))) : SL (SL Bool)) = rTab n (relOp (gs, (n : Int), T, A) 6 v [relE (gs, (n : Int), T, A) a, relE (gs, (n : Int), T, A) b]) from rfl, rD_eq]
   simp +contextual -implicitDefEqProofs only [go_sem, ↓reduceIte, Nat.reduceEqDiff, Nat.reduceBEq, Nat.reduceBneDiff]
end Go.Ax
