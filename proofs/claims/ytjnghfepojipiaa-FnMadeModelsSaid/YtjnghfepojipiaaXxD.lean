/- Contracts of functions of the seat, proved over the engine. No condition. -/
import Derived.Test.YtjnghfepojipiaaXxC
import Derived.Test.YtjnghfepojipiaaXxA
set_option linter.unusedSimpArgs false
set_option linter.unusedVariables false
set_option linter.unnecessarySimpa false
namespace Go.Ax
set_option maxRecDepth 20000
set_option maxHeartbeats 4000000
def sqR (n : Nat) (A : Rel) : Nat → Rel
 | 0 => fun x y => x == y || A x y
 | k + 1 => dotR n (sqR n A k) (sqR n A k)
theorem warR_mono {A : Rel} {k x y : Nat} (h : warR A k x y = true) : warR A (k + 1) x y = true := by simp [warR, h]
theorem warR_le {A : Rel} {k m x y : Nat} (hm : k ≤ m) (h : warR A k x y = true) : warR A m x y = true := by
 induction hm with
 | refl => exact h
 | step _ ih => exact warR_mono ih
theorem warR_trans {A : Rel} : ∀ {k x z y : Nat}, z < k → warR A k x z = true → warR A k z y = true → warR A k x y = true
 | 0, _, _, _, h, _, _ => by omega
 | k + 1, x, z, y, hz, h1, h2 => by
  simp only [warR, Bool.or_eq_true, bA] at h1 h2 ⊢
  by_cases e : z = k
  ·subst e
   refine .inr ⟨?_, ?_⟩
   ·rcases h1 with h | h
    ·exact h
    ·exact h.1
   ·rcases h2 with h | h
    ·exact h
    ·exact h.2
  ·have hz' : z < k := by omega
   rcases h1 with h1 | ⟨h1, h1'⟩
   ·rcases h2 with h2 | ⟨h2, h2'⟩
    ·exact .inl (warR_trans hz' h1 h2)
    ·exact .inr ⟨warR_trans hz' h1 h2, h2'⟩
   ·rcases h2 with h2 | ⟨h2, h2'⟩
    ·exact .inr ⟨h1, warR_trans hz' h1' h2⟩
    ·exact .inr ⟨h1, h2'⟩
theorem dotR_true {n : Nat} {A B : Rel} {x y : Nat} : dotR n A B x y = true ↔ ∃ z, z < n ∧ A x z = true ∧ B z y = true := by
 simp only [dotR, dotU, List.any_eq_true, List.mem_range, bA]
theorem sqR_refl {n : Nat} {A : Rel} : ∀ {k x : Nat}, x < n → sqR n A k x x = true
 | 0, x, _ => by simp [sqR]
 | k + 1, x, h => dotR_true.2 ⟨x, h, sqR_refl h, sqR_refl h⟩
theorem sqR_of_war {n : Nat} {A : Rel} : ∀ {k x y : Nat}, k ≤ n → x < n → y < n → warR A k x y = true → sqR n A k x y = true
 | 0, x, y, _, _, _, h => by simpa [sqR, warR, or_comm] using h
 | k + 1, x, y, hk, hx, hy, h => by
  simp only [warR, Bool.or_eq_true, bA] at h
  rcases h with h | ⟨h1, h2⟩
  ·exact dotR_true.2 ⟨y, hy, sqR_of_war (by omega) hx hy h, sqR_refl hy⟩
  ·exact dotR_true.2 ⟨k, by omega, sqR_of_war (by omega) hx (by omega) h1, sqR_of_war (by omega) (by omega) hy h2⟩
theorem war_of_sqR {n : Nat} {A : Rel} : ∀ {k x y : Nat}, x < n → y < n → sqR n A k x y = true → warR A n x y = true
 | 0, x, y, _, _, h => warR_le (Nat.zero_le n) (by simpa [sqR, warR, or_comm] using h)
 | k + 1, x, y, hx, hy, h => by
  obtain ⟨z, hz, h1, h2⟩ := dotR_true.1 h
  exact warR_trans hz (war_of_sqR hx hz h1) (war_of_sqR hz hy h2)
theorem sqR_star {n : Nat} {A : Rel} : rD n (sqR n A n) = rD n (starR n A) := rD_congr fun x y hx hy => by
 cases h : starR n A x y with
 | true => exact sqR_of_war (Nat.le_refl n) hx hy h
 | false =>
  cases h2 : sqR n A n x y with
  | false => rfl
  | true => rw [starR, war_of_sqR hx hy h2] at h; cases h
theorem kind_len {m : Mo} {k v : Int} {ks : List Ex} (h : KindOk m k v ks) : ks.length ≤ 2 := by
 cases h <;> simp_all
def rKids (n : Nat) (rs : List Rel) : D := .ls (some false) 1 (rs.map fun R => .ls (some false) 1 (rD n R))
theorem nat_beq {x y : Nat} : ((x : Int) == (y : Int)) = (x == y) := by
 by_cases h : x = y
 ·subst h; rw [bE, bE]
 ·rw [beq_false_of_ne h, beq_false_of_ne (fun e => h (by omega))]
theorem at0 {a : D} {l : List D} : D.at (a :: l) 0 = a := rfl
theorem at1 {a b : D} {l : List D} : D.at (a :: b :: l) 1 = b := rfl

def k_relation1 : RC := (.seq (.reg false [⟨none, .mv 6 (.c (.sc (.bool false)))⟩]) ((.seq (.reg false [⟨none, .fa 7 4 (.t 2)⟩, ⟨none, .ld 8 false 1 (.t 7)⟩, ⟨none, .fa 9 1 (.t 3)⟩, ⟨none, .ld 10 false 1 (.t 9)⟩, ⟨none, .ia 11 1 (.t 8) (.t 10)⟩, ⟨none, .ld 12 false 1 (.t 11)⟩, ⟨none, .mv 13 (.t 0)⟩, ⟨none, .ia 14 1 (.t 12) (.t 13)⟩, ⟨none, .ld 15 false 1 (.t 14)⟩, ⟨none, .mv 16 (.t 1)⟩, ⟨none, .ia 17 1 (.t 15) (.t 16)⟩, ⟨none, .ld 18 false 1 (.t 17)⟩, ⟨none, .mv 6 (.t 18)⟩]) (.ret))))
def K_relation1 (P : Program) (fno : Nat) : Prop := ∀ (m : Mo) (n : Nat) (k v : Int) (nn : Option Bool) (ks : List Ex) (x y : Nat) (hM : MoOk m n) (hx : x < n) (hy : y < n) (h0 : 0 ≤ v) (h1 : v.toNat < m.2.2.2.2.length), AF P fno [eI x, eI y, .pt (eM m) 0, .pt (eE (.mk k v nn ks)) 0] (.own (eB (relOf (actOf m v) x y)))
theorem a_relation1 {P : Program} (hm : P.follows .mixedOrders = true) {g : Nat} (hr : resF P g = some (19, k_relation1, [.t 6])) : K_relation1 P g := by
 intro m n k v nn ks x y hM hx hy h0 h1
 obtain ⟨gs, p, T, A⟩ := m
 obtain rfl : p = n := hM.pts
 have h1' := nat_lt_of' h0 h1
 have t1 := at_mapD (f := eS 1 (eS 1 eB)) (d := (none, [])) h1
 have t2 := hM.asq _ (getD_mem (d := (none, [])) h1)
 have t3 := t2.at hx
 have t4 := t2.at2 hx hy
 have t5 := t2.len
 have t6 := t2.rows hx
 simp only at h1 h1' t1 t2 t3 t4 t5 t6
 rw [eE_mk]
 refine af_of_res hr hm rfl fun hb => ?_
 simp +contextual -implicitDefEqProofs only [k_relation1, t1, t3, t4, t5, t6, h0, h1', hx, hy, eM, eS, eI, D.size, D.sizeL, D.sub, D.isAg, go_sem, eB, ↓reduceIte, Nat.reduceEqDiff, Nat.reduceAdd, Nat.reduceLeDiff, Nat.reduceLT, iL, lM, iN]
 exact D.Le.refl _

def k_relation2 : RC := (.seq (.reg false [⟨none, .mv 5 (.c (.sc (.bool false)))⟩]) ((.seq (.reg false [⟨none, .mv 6 (.t 0)⟩, ⟨none, .mv 7 (.t 1)⟩, ⟨none, .bin 8 .eql (.t 6) (.t 7)⟩, ⟨none, .mv 9 (.t 8)⟩, ⟨some (9, false), .ld 10 false 1 (.t 2)⟩, ⟨some (9, false), .ia 11 1 (.t 10) (.c (.sc (.int .i64 0)))⟩, ⟨some (9, false), .ld 12 false 1 (.t 11)⟩, ⟨some (9, false), .mv 13 (.t 0)⟩, ⟨some (9, false), .ia 14 1 (.t 12) (.t 13)⟩, ⟨some (9, false), .ld 15 false 1 (.t 14)⟩, ⟨some (9, false), .mv 16 (.t 1)⟩, ⟨some (9, false), .ia 17 1 (.t 15) (.t 16)⟩, ⟨some (9, false), .ld 18 false 1 (.t 17)⟩, ⟨none, .pick 19 (.t 9) (.c (.sc (.bool true))) (.t 18)⟩, ⟨none, .mv 5 (.t 19)⟩]) (.ret))))
def K_relation2 (P : Program) (fno : Nat) : Prop := ∀ (n : Nat) (R : Rel) (x y : Nat) (hx : x < n) (hy : y < n), AF P fno [eI x, eI y, .pt (rKids n [R]) 0] (.own (eB (x == y || R x y)))
theorem a_relation2 {P : Program} (hm : P.follows .mixedOrders = true) {g : Nat} (hr : resF P g = some (20, k_relation2, [.t 5])) : K_relation2 P g := by
 intro n R x y hx hy
 have b1 := rD_at (R := R) hx
 have b2 := rRow_at (f := R x) hy
 refine af_of_res hr hm rfl fun hb => ?_
 cases hv : (x == y)
 all_goals
  simp +contextual -implicitDefEqProofs only [k_relation2, rKids, at0, b1, b2, hx, hy, nat_beq, hv, rD_len, rRow_len, eI, D.size, D.sub, Int.cast_ofNat_Int, Int.reduceLT, Int.le_refl, D.isAg, lN, lC, List.length_cons, List.length_nil, go_sem, eB, ↓reduceIte, Nat.reduceEqDiff, Nat.reduceAdd, Nat.reduceLeDiff, Nat.reduceLT, iL, iN]
 all_goals rfl

def k_relation3 : RC := (.seq (.reg false [⟨none, .mv 7 (.c (.sc (.bool false)))⟩]) ((.seq ((.seq (.reg false [⟨none, .fa 8 0 (.t 2)⟩, ⟨none, .ld 9 false 1 (.t 8)⟩]) (.blk 0 ((.seq (.reg false [⟨none, .bin 11 .eql (.t 9) (.c (.sc (.int .i64 2)))⟩, ⟨none, .mv 10 (.t 11)⟩]) (.cond (.t 10) ((.seq (.reg false [⟨none, .mv 12 (.t 0)⟩, ⟨none, .mv 13 (.t 1)⟩, ⟨none, .bin 14 .eql (.t 12) (.t 13)⟩, ⟨none, .mv 7 (.t 14)⟩]) (.ret))) ((.seq (.reg false [⟨none, .bin 16 .eql (.t 9) (.c (.sc (.int .i64 3)))⟩, ⟨none, .mv 15 (.t 16)⟩]) (.cond (.t 15) ((.seq (.reg false [⟨none, .mv 17 (.t 0)⟩, ⟨none, .mv 18 (.t 1)⟩, ⟨none, .bin 19 .eql (.t 17) (.t 18)⟩, ⟨none, .mv 20 (.t 19)⟩, ⟨some (20, true), .fa 21 3 (.t 3)⟩, ⟨some (20, true), .ld 22 false 1 (.t 21)⟩, ⟨some (20, true), .fa 23 1 (.t 2)⟩, ⟨some (20, true), .ld 24 false 1 (.t 23)⟩, ⟨some (20, true), .ia 25 1 (.t 22) (.t 24)⟩, ⟨some (20, true), .ld 26 false 1 (.t 25)⟩, ⟨some (20, true), .mv 27 (.t 0)⟩, ⟨some (20, true), .ia 28 1 (.t 26) (.t 27)⟩, ⟨some (20, true), .ld 29 false 1 (.t 28)⟩, ⟨none, .pick 30 (.t 20) (.t 29) (.c (.sc (.bool false)))⟩, ⟨none, .mv 7 (.t 30)⟩]) (.ret))) ((.seq (.reg false [⟨none, .bin 32 .eql (.t 9) (.c (.sc (.int .i64 5)))⟩, ⟨none, .mv 31 (.t 32)⟩]) (.cond (.t 31) ((.seq (.reg false [⟨none, .mv 33 (.t 0)⟩, ⟨none, .mv 34 (.t 1)⟩, ⟨none, .bin 35 .eql (.t 33) (.t 34)⟩, ⟨none, .mv 36 (.t 35)⟩, ⟨some (36, true), .ld 37 false 1 (.t 4)⟩, ⟨some (36, true), .ia 38 1 (.t 37) (.c (.sc (.int .i64 0)))⟩, ⟨some (36, true), .ld 39 false 1 (.t 38)⟩, ⟨some (36, true), .mv 40 (.t 0)⟩, ⟨some (36, true), .ia 41 1 (.t 39) (.t 40)⟩, ⟨some (36, true), .ld 42 false 1 (.t 41)⟩, ⟨some (36, true), .mv 43 (.t 1)⟩, ⟨some (36, true), .ia 44 1 (.t 42) (.t 43)⟩, ⟨some (36, true), .ld 45 false 1 (.t 44)⟩, ⟨some (36, true), .un 46 .not (.t 45)⟩, ⟨none, .pick 47 (.t 36) (.t 46) (.c (.sc (.bool false)))⟩, ⟨none, .mv 7 (.t 47)⟩]) (.ret))) ((.seq (.reg false [⟨none, .bin 49 .eql (.t 9) (.c (.sc (.int .i64 6)))⟩, ⟨none, .mv 48 (.t 49)⟩]) (.cond (.t 48) ((.seq (.reg false [⟨none, .ld 50 false 1 (.t 4)⟩, ⟨none, .ia 51 1 (.t 50) (.c (.sc (.int .i64 0)))⟩, ⟨none, .ld 52 false 1 (.t 51)⟩, ⟨none, .mv 53 (.t 0)⟩, ⟨none, .ia 54 1 (.t 52) (.t 53)⟩, ⟨none, .ld 55 false 1 (.t 54)⟩, ⟨none, .mv 56 (.t 1)⟩, ⟨none, .ia 57 1 (.t 55) (.t 56)⟩, ⟨none, .ld 58 false 1 (.t 57)⟩, ⟨none, .mv 59 (.t 58)⟩, ⟨some (59, false), .ld 60 false 1 (.t 4)⟩, ⟨some (59, false), .ia 61 1 (.t 60) (.c (.sc (.int .i64 1)))⟩, ⟨some (59, false), .ld 62 false 1 (.t 61)⟩, ⟨some (59, false), .mv 63 (.t 0)⟩, ⟨some (59, false), .ia 64 1 (.t 62) (.t 63)⟩, ⟨some (59, false), .ld 65 false 1 (.t 64)⟩, ⟨some (59, false), .mv 66 (.t 1)⟩, ⟨some (59, false), .ia 67 1 (.t 65) (.t 66)⟩, ⟨some (59, false), .ld 68 false 1 (.t 67)⟩, ⟨none, .pick 69 (.t 59) (.c (.sc (.bool true))) (.t 68)⟩, ⟨none, .mv 7 (.t 69)⟩]) (.ret))) (.skip)))))))))))))))) ((.seq (.reg false [⟨none, .mv 7 (.c (.sc (.bool false)))⟩]) (.ret))))))
def K_relation3 (P : Program) (fno : Nat) : Prop := ∀ (m : Mo) (n : Nat) (k v : Int) (nn : Option Bool) (ks : List Ex) (x y : Nat) (hM : MoOk m n) (rs : List Rel) (hx : x < n) (hy : y < n) (hl : rs.length = ks.length) (hK : KindOk m k v ks) (hk4 : k ≠ 4 ∧ k ≠ 7 ∧ k ≠ 8), AF P fno [eI x, eI y, .pt (eE (.mk k v nn ks)) 0, .pt (eM m) 0, .pt (rKids n rs) 0] (.own (eB (relOp m k v rs x y)))
theorem a_relation3 {P : Program} (hm : P.follows .mixedOrders = true) {g : Nat} (hr : resF P g = some (70, k_relation3, [.t 7])) : K_relation3 P g := by
 intro m n k v nn ks x y hM rs hx hy hl hK hk4
 obtain ⟨gs, p, T, A⟩ := m
 obtain rfl : p = n := hM.pts
 rw [eE_mk]
 refine af_of_res hr hm rfl fun hb => ?_
 cases hv : (x == y)
 all_goals
 cases hK with
 | zero hk hks =>
  subst hk hks
  rw [show relOp (gs, (n : Int), T, A) 1 v rs x y = false by simp [relOp, noneR]]
  simp +contextual -implicitDefEqProofs only [k_relation3, eM, eS, eI, D.size, D.sizeL, D.sub, Int.reduceBEq, D.isAg, lN, go_sem, eB, ↓reduceIte, Nat.reduceEqDiff, Nat.reduceAdd, Nat.reduceLeDiff, Nat.reduceLT]
 | one hk hks =>
  subst hk hks
  rw [show relOp (gs, (n : Int), T, A) 2 v rs x y = (x == y && true) by simp [relOp, diagR], hv]
  simp +contextual -implicitDefEqProofs only [k_relation3, nat_beq, hv, eM, eS, eI, D.size, D.sizeL, D.sub, bE, D.isAg, lN, go_sem, eB, ↓reduceIte, Nat.reduceEqDiff, Nat.reduceAdd, Nat.reduceLeDiff, Nat.reduceLT]
 | test hk hks h0 h1 =>
  subst hk hks
  have h1' := nat_lt_of' h0 h1
  have t1 := at_mapD (f := eS 1 eB) (d := (none, [])) h1
  have t2 := hM.tr _ (getD_mem (d := (none, [])) h1)
  simp only at h1 h1' t1 t2
  have t5 : x < (T.2.getD v.toNat (none, [])).2.length := by omega
  have t3 := at_mapD (f := eB) (d := false) t5
  have t4 : (T.2.getD v.toNat (none, [])).2.getD x false = testOf (gs, (n : Int), T, A) v x := rfl
  rw [t4] at t3
  rw [show relOp (gs, (n : Int), T, A) 3 v rs x y = (x == y && testOf (gs, (n : Int), T, A) v x) by simp [relOp, diagR], hv]
  simp +contextual -implicitDefEqProofs only [k_relation3, nat_beq, hv, t1, t2, t3, h0, h1', eM, eS, eI, D.size, D.sizeL, D.sub, Int.reduceBEq, bE, D.isAg, lN, go_sem, eB, ↓reduceIte, Nat.reduceEqDiff, Nat.reduceAdd, Nat.reduceLeDiff, Nat.reduceLT, iL, lM, iN]
  all_goals exact hx
 | nt hk a hks =>
  subst hk hks
  obtain ⟨R0, rfl⟩ : ∃ R0, rs = [R0] := by
   match rs, hl with
   | [a], _ => exact ⟨a, rfl⟩
  have b1 := rD_at (R := R0) hx
  have b2 := rRow_at (f := R0 x) hy
  rw [show relOp (gs, (n : Int), T, A) 5 v [R0] x y = (x == y && !(R0 x y)) by (by_cases e : x = y; (subst e; simp [relOp, diagR]); (simp [relOp, diagR, beq_false_of_ne e])), hv]
  simp +contextual -implicitDefEqProofs only [k_relation3, rKids, at0, nat_beq, hv, b1, b2, hx, hy, rD_len, rRow_len, eM, eS, eI, D.size, D.sizeL, D.sub, Int.cast_ofNat_Int, Int.reduceLT, Int.le_refl, Int.reduceBEq, bE, D.isAg, lN, lC, List.length_cons, List.length_nil, go_sem, eB, ↓reduceIte, Nat.reduceEqDiff, Nat.reduceAdd, Nat.reduceLeDiff, Nat.reduceLT, iL, iN]
 | sum hk a b hks =>
  subst hk hks
  obtain ⟨R0, R1, rfl⟩ : ∃ R0 R1, rs = [R0, R1] := by
   match rs, hl with
   | [a, b], _ => exact ⟨a, b, rfl⟩
  have b1 := rD_at (R := R0) hx
  have b2 := rRow_at (f := R0 x) hy
  have b3 := rD_at (R := R1) hx
  have b4 := rRow_at (f := R1 x) hy
  rw [show relOp (gs, (n : Int), T, A) 6 v [R0, R1] x y = (R0 x y || R1 x y) by simp [relOp]]
  cases hw : R0 x y
  all_goals
   rw [hw] at b2
   simp +contextual -implicitDefEqProofs only [k_relation3, rKids, at0, at1, b1, b2, b3, b4, hx, hy, rD_len, rRow_len, eM, eS, eI, D.size, D.sizeL, D.sub, Int.cast_ofNat_Int, Int.reduceLT, Int.reduceLE, Int.le_refl, Int.reduceBEq, bE, Int.reduceToNat, D.isAg, lN, lC, List.length_cons, List.length_nil, go_sem, eB, ↓reduceIte, Nat.reduceEqDiff, Nat.reduceAdd, Nat.reduceLeDiff, Nat.reduceLT, iL, iN]
 | act hk => exact absurd hk hk4.1
 | dot hk => exact absurd hk hk4.2.1
 | star hk => exact absurd hk hk4.2.2

def k_relation (g f1 f2 f3 f4 f5 : Nat) : RC := (.seq (.reg false [⟨none, .box 2 5 (.t 0)⟩, ⟨none, .box 3 3 (.t 1)⟩, ⟨none, .mv 4 (.c (.ls (some true) 1 []))⟩]) ((.seq (.reg false [⟨none, .bs 9 1 (.ls (some true) 1 []) 0 []⟩, ⟨none, .zer 5 1 (.ls (some true) 1 [])⟩, ⟨none, .st 1 (.t 5) (.t 9)⟩]) ((.seq ((.seq (.reg false [⟨none, .fa 10 2 (.t 3)⟩, ⟨none, .ld 11 false 1 (.t 10)⟩, ⟨none, .len 12 (.t 11)⟩, ⟨none, .mv 13 (.c (.sc (.int .i64 0)))⟩]) (.blk 0 (.loop ((.seq (.reg false [⟨none, .bin 14 .lss (.t 13) (.t 12)⟩]) ((.seq (.cond (.t 14) (.skip) (.exit 0)) ((.seq (.blk 1 ((.seq (.reg false [⟨none, .ia 15 3 (.t 11) (.t 13)⟩, ⟨none, .ld 16 true 3 (.t 15)⟩, ⟨none, .zer 7 3 (.ag [(.sc (.int .i64 0)), (.sc (.int .i64 0)), (.ls (some true) 3 [])])⟩, ⟨none, .st 3 (.t 7) (.t 16)⟩]) (.reg true [⟨none, .ld 17 false 1 (.t 5)⟩, ⟨none, .ld 18 true 5 (.t 2)⟩, ⟨none, .ld 19 true 3 (.t 7)⟩, ⟨none, .call (some 20) g [(.t 18), (.t 19)]⟩, ⟨none, .bs 21 1 (.ls (some true) 1 []) 1 [(0, (.t 20))]⟩, ⟨none, .app 22 1 24 (.t 17) (.t 21)⟩, ⟨none, .st 1 (.t 5) (.t 22)⟩])))) (.reg false [⟨none, .bin 23 .add (.t 13) (.c (.sc (.int .i64 1)))⟩, ⟨none, .mv 13 (.t 23)⟩]))))))))))) ((.seq ((.seq (.reg false [⟨none, .fa 24 0 (.t 3)⟩, ⟨none, .ld 25 false 1 (.t 24)⟩]) (.blk 2 ((.seq (.reg false [⟨none, .bin 27 .eql (.t 25) (.c (.sc (.int .i64 4)))⟩, ⟨none, .mv 26 (.t 27)⟩]) (.cond (.t 26) ((.seq (.reg false [⟨none, .fa 28 2 (.t 2)⟩, ⟨none, .ld 29 false 1 (.t 28)⟩, ⟨none, .mkf 30 f3 [(.t 2), (.t 3)]⟩, ⟨none, .call (some 31) f1 [(.t 29), (.t 30)]⟩, ⟨none, .mv 4 (.t 31)⟩]) (.ret))) ((.seq (.reg false [⟨none, .bin 33 .eql (.t 25) (.c (.sc (.int .i64 7)))⟩, ⟨none, .mv 32 (.t 33)⟩]) (.cond (.t 32) ((.seq (.reg true [⟨none, .ld 34 false 1 (.t 5)⟩, ⟨none, .ia 35 1 (.t 34) (.c (.sc (.int .i64 0)))⟩, ⟨none, .ld 36 false 1 (.t 35)⟩, ⟨none, .ld 37 false 1 (.t 5)⟩, ⟨none, .ia 38 1 (.t 37) (.c (.sc (.int .i64 1)))⟩, ⟨none, .ld 39 false 1 (.t 38)⟩, ⟨none, .call (some 40) f2 [(.t 36), (.t 39)]⟩, ⟨none, .mv 4 (.t 40)⟩]) (.ret))) ((.seq (.reg false [⟨none, .bin 42 .eql (.t 25) (.c (.sc (.int .i64 8)))⟩, ⟨none, .mv 41 (.t 42)⟩]) (.cond (.t 41) ((.seq (.reg false [⟨none, .fa 43 2 (.t 2)⟩, ⟨none, .ld 44 false 1 (.t 43)⟩, ⟨none, .mkf 45 f4 [(.t 5)]⟩, ⟨none, .call (some 46) f1 [(.t 44), (.t 45)]⟩, ⟨none, .mv 8 (.t 46)⟩]) ((.seq ((.seq (.reg false [⟨none, .fa 47 2 (.t 2)⟩, ⟨none, .ld 48 false 1 (.t 47)⟩, ⟨none, .mv 49 (.c (.sc (.int .i64 0)))⟩]) (.blk 3 (.loop ((.seq (.reg false [⟨none, .bin 50 .lss (.t 49) (.t 48)⟩]) ((.seq (.cond (.t 50) (.skip) (.exit 3)) ((.seq (.blk 4 (.reg false [⟨none, .mv 51 (.t 8)⟩, ⟨none, .mv 52 (.t 8)⟩, ⟨none, .call (some 53) f2 [(.t 51), (.t 52)]⟩, ⟨none, .mv 8 (.t 53)⟩])) (.reg false [⟨none, .bin 54 .add (.t 49) (.c (.sc (.int .i64 1)))⟩, ⟨none, .mv 49 (.t 54)⟩]))))))))))) ((.seq (.reg false [⟨none, .mv 55 (.t 8)⟩, ⟨none, .mv 4 (.t 55)⟩]) (.ret))))))) (.skip))))))))))))) ((.seq (.reg false [⟨none, .fa 56 2 (.t 2)⟩, ⟨none, .ld 57 false 1 (.t 56)⟩, ⟨none, .mkf 58 f5 [(.t 3), (.t 2), (.t 5)]⟩, ⟨none, .call (some 59) f1 [(.t 57), (.t 58)]⟩, ⟨none, .mv 4 (.t 59)⟩]) (.ret))))))))))
def K_relation (P : Program) (fno : Nat) : Prop := ∀ (m : Mo) (n : Nat) (e : Ex) (hM : MoOk m n) (hT : treeE m.1 e = true), AF P fno [eM m, eE e] (.own (.ls (some false) 1 (rD n (relE m e))))
theorem a_relation {P : Program} (hm : P.follows .mixedOrders = true) {g f1 f2 f3 f4 f5 : Nat} (hr : resF P g = some (60, k_relation g f1 f2 f3 f4 f5, [.t 4])) (hc1 : K_tableB P f1) (hc2 : K_composed P f2) (hc3 : K_relation1 P f3) (hc4 : K_relation2 P f4) (hc5 : K_relation3 P f5) : K_relation P g := by
 intro m n e hM hT
 obtain ⟨gs, p, T, A⟩ := m
 obtain rfl : p = n := hM.pts
 refine Ex.ind (p := fun e => treeE gs e = true → AF P g [eM (gs, (n : Int), T, A), eE e] (.own (.ls (some false) 1 (rD n (relE (gs, (n : Int), T, A) e))))) (fun k v nn ks ih hT => ?_) e hT
 rw [treeE_mk, bA, List.all_eq_true] at hT
 have n1 := hM.n1
 have n8 := hM.n8
 have hK := kind_ok hM hT.1
 rw [eE_mk, relE_mk]
 refine af_of_res hr hm rfl fun hb => ?_
 have hkl : ks.length ≤ 2 := kind_len hK
 simp +contextual -implicitDefEqProofs only [k_relation, at0, eM, eS, eI, D.size, D.sizeL, D.sub, bE, D.isAg, lN, List.length_cons, List.length_nil, go_sem, ↓reduceIte, Nat.reduceEqDiff, Nat.reduceAdd, Nat.reduceLeDiff, Nat.reduceBEq, Nat.reduceBneDiff, Nat.reduceLT, lM]
 refine vc_onU (α := Nat) [7, 13, 14, 15, 16, 17, 18, 19, 20, 21, 22, 23] (fun i => [(13, .im none (.sc (.int .i64 i)))]) (fun i => [(5, .ar true (some false) 1 [.ls (some false) 1 ((ks.take i).map fun e => .ls (some false) 1 (rD n (relE (gs, (n : Int), T, A) e)))]), (3, .ar false (some false) 3 [.ag [.sc (.int .i64 k), .sc (.int .i64 v), .ls nn 3 (ks.map eE)]]), (2, .ar false (some false) 5 [.ag [.sc (.int .i64 gs.1), .sc (.int .i64 gs.2), .sc (.int .i64 n), .ls T.1 1 (T.2.map (eS 1 eB)), .ls A.1 1 (A.2.map (eS 1 (eS 1 eB)))]])]) (fun i => i ≤ ks.length) (fun i => ks.length - i) 0 (Ent.to [] (by simp only [go_sem]; rfl) rfl (by simp) (by rfl) (by simp only [subEnv, go_sem, ↓reduceIte, Nat.reduceEqDiff, keep, memN] <;> simp)) (Nat.zero_le _) ?_
 intro i hi0
 by_cases hi : i < ks.length
 ·have e1 := at_map (f := eE) hi
  have hx := List.getElem_mem hi
  have ihx := ih ks[i] hx (hT.2 _ hx)
  obtain ⟨ek, en, enn, eks, hxk⟩ := Ex.ex ks[i]
  rw [hxk, eE_mk] at e1 ihx
  simp +contextual -implicitDefEqProofs only [hi, e1, D.put, D.size, D.sizeL, D.isAg, modeOf, noPtrs, lM, D.sub, bE, lN, lC, List.length_cons, List.length_nil, go_sem, ↓reduceIte, Nat.reduceEqDiff, Nat.reduceAdd, Nat.reduceLeDiff, Nat.reduceBEq, Nat.reduceBneDiff, Nat.reduceLT, iL, iN]
  refine callQ_self (ds := [eM (gs, (n : Int), T, A), .ag [.sc (.int .i64 ek), .sc (.int .i64 en), .ls enn 3 (eks.map eE)]]) (by rfl) ihx ?_
  simp +contextual -implicitDefEqProofs only [D.put, D.size, D.isAg, modeOf, noPtrs, lM, D.sub, bE, lN, lC, List.length_cons, List.length_nil, go_sem, ↓reduceIte, Nat.reduceEqDiff, Nat.reduceLeDiff, Nat.reduceMul, Nat.reduceBEq, Nat.reduceBneDiff, Nat.reduceLT]
  refine ⟨rfl, ⟨by (try simp); omega, by unfold maxEl; (try simp); omega, by simp [D.size]⟩, i + 1, by omega, by omega, ?_⟩
  rw [wrap_i64 (by omega) (by omega)]
  exact Ent.to [7] (by simp only [go_sem, ↓reduceIte, Nat.reduceEqDiff, Nat.reduceBEq]; rfl) rfl (by simp [map_take hi, hxk]) (by rfl) (by simp only [subEnv, go_sem, ↓reduceIte, Nat.reduceEqDiff] <;> simp)
 ·obtain rfl : i = ks.length := by omega
  have hxy : ∀ x y : Nat, ((x : Int) == (y : Int)) = (x == y) := fun x y => nat_beq
  rw [List.take_length]
  cases hK with
  | act hk hks h0 h1 =>
   subst hk hks
   rw [show relOp (gs, (n : Int), T, A) 4 v ([].map (relE (gs, (n : Int), T, A))) = relOf (actOf (gs, (n : Int), T, A) v) by simp [relOp]]
   simp +contextual -implicitDefEqProofs only [D.sub, Int.cast_ofNat_Int, Int.reduceLT, bE, D.isAg, lN, lC, List.length_nil, go_sem, ↓reduceIte, Nat.reduceEqDiff, Nat.reduceAdd, Nat.reduceLeDiff, Nat.reduceLT]
   refine callQ_self (ds := [eI n, .fn f3 [.pt (eM (gs, (n : Int), T, A)) 0, .pt (eE (.mk 4 v nn [])) 0]]) (by rw [eE_mk]; rfl) (hc1 n f3 _ (relOf (actOf (gs, (n : Int), T, A) v)) (by omega) (fun x y hx hy => hc3 (gs, (n : Int), T, A) n 4 v nn [] x y hM hx hy h0 h1)) ?_
   rw [show ((some false, tabL n fun x => (some false, tabL n (relOf (actOf (gs, (n : Int), T, A) v) x))) : SL (SL Bool)) = rTab n (relOf (actOf (gs, (n : Int), T, A) v)) from rfl, rD_eq]
   simp +contextual -implicitDefEqProofs only [go_sem, ↓reduceIte, Nat.reduceEqDiff, Nat.reduceBEq, Nat.reduceBneDiff]
  | dot hk a b hks =>
   subst hk hks
   rw [show relOp (gs, (n : Int), T, A) 7 v ([a, b].map (relE (gs, (n : Int), T, A))) = dotR n (relE (gs, (n : Int), T, A) a) (relE (gs, (n : Int), T, A) b) by simp [relOp]]
   simp +contextual -implicitDefEqProofs only [at0, at1, D.sub, Int.cast_ofNat_Int, Int.reduceLT, Int.reduceLE, Int.le_refl, Int.reduceBEq, bE, Int.reduceToNat, D.isAg, lN, lC, List.length_cons, List.length_nil, go_sem, ↓reduceIte, Nat.reduceEqDiff, Nat.reduceAdd, Nat.reduceLeDiff, Nat.reduceLT]
   refine callQ_self (ds := [.ls (some false) 1 (rD n (relE (gs, (n : Int), T, A) a)), .ls (some false) 1 (rD n (relE (gs, (n : Int), T, A) b))]) (by rfl) (comp_D hc2 (by omega)) ?_
   simp +contextual -implicitDefEqProofs only [go_sem, ↓reduceIte, Nat.reduceEqDiff, Nat.reduceBEq, Nat.reduceBneDiff]
  | star hk a hks =>
   subst hk hks
   rw [show relOp (gs, (n : Int), T, A) 8 v ([a].map (relE (gs, (n : Int), T, A))) = starR n (relE (gs, (n : Int), T, A) a) by simp [relOp]]
   simp +contextual -implicitDefEqProofs only [at0, D.sub, Int.cast_ofNat_Int, Int.reduceLT, Int.reduceBEq, bE, D.isAg, lN, lC, List.length_cons, List.length_nil, go_sem, ↓reduceIte, Nat.reduceEqDiff, Nat.reduceAdd, Nat.reduceLeDiff, Nat.reduceLT]
   refine callQ_self (ds := [eI n, .fn f4 [.pt (rKids n [relE (gs, (n : Int), T, A) a]) 0]]) (by rfl) (hc1 n f4 _ (sqR n (relE (gs, (n : Int), T, A) a) 0) (by omega) (fun x y hx hy => hc4 n (relE (gs, (n : Int), T, A) a) x y hx hy)) ?_
   rw [show ((some false, tabL n fun x => (some false, tabL n (sqR n (relE (gs, (n : Int), T, A) a) 0 x))) : SL (SL Bool)) = rTab n (sqR n (relE (gs, (n : Int), T, A) a) 0) from rfl, rD_eq]
   simp +contextual -implicitDefEqProofs only [D.sub, D.isAg, go_sem, ↓reduceIte, Nat.reduceEqDiff, Nat.reduceAdd, Nat.reduceLeDiff, Nat.reduceBneDiff, Nat.reduceLT]
   refine vc_onU (α := Nat) [8, 46, 49, 50, 51, 52, 53, 54] (fun i => [(49, .im none (.sc (.int .i64 i))), (8, .tr 46)]) (fun i => [(46, .own (.ls (some false) 1 (rD n (sqR n (relE (gs, (n : Int), T, A) a) i)))), (5, .ar true (some false) 1 [.ls (some false) 1 [.ls (some false) 1 (rD n (relE (gs, (n : Int), T, A) a))]]), (3, .ar false (some false) 3 [.ag [.sc (.int .i64 8), .sc (.int .i64 v), .ls nn 3 [eE a]]]), (2, .ar false (some false) 5 [.ag [.sc (.int .i64 gs.1), .sc (.int .i64 gs.2), .sc (.int .i64 n), .ls T.1 1 (T.2.map (eS 1 eB)), .ls A.1 1 (A.2.map (eS 1 (eS 1 eB)))]])]) (fun i => i ≤ n) (fun i => n - i) 0 (Ent.to [] (by simp only [go_sem]; rfl) rfl (by simp) (by rfl) (by simp only [subEnv, go_sem, ↓reduceIte, Nat.reduceEqDiff, keep, memN] <;> simp)) (Nat.zero_le _) ?_
   intro i hi0
   by_cases hin : i < n
   ·simp +contextual -implicitDefEqProofs only [hin, lN, lC, go_sem, ↓reduceIte, Nat.reduceEqDiff, iL]
    refine callQ_self (ds := [.ls (some false) 1 (rD n (sqR n (relE (gs, (n : Int), T, A) a) i)), .ls (some false) 1 (rD n (sqR n (relE (gs, (n : Int), T, A) a) i))]) (by rfl) (comp_D hc2 (by omega)) ?_
    simp +contextual -implicitDefEqProofs only [go_sem, ↓reduceIte, Nat.reduceEqDiff, Nat.reduceBneDiff]
    refine ⟨i + 1, by omega, by omega, ?_⟩
    rw [wrap_i64 (by omega) (by omega)]
    refine Ent.trans (Ent.del _ 46) (Ent.trans (Ent.ren _ 53 46 [8] (.ls (some false) 1 (rD n (sqR n (relE (gs, (n : Int), T, A) a) (i + 1)))) (by rfl) (by rfl) (by simp; rfl)) ?_)
    exact Ent.to [] (by simp only [go_sem, lC, lN, ↓reduceIte, Nat.reduceEqDiff, Nat.reduceBEq]; rfl) rfl (by simp) (by rfl) (by simp only [subEnv, go_sem, ↓reduceIte, Nat.reduceEqDiff] <;> simp)
   ·obtain rfl : i = n := by omega
    simp +contextual -implicitDefEqProofs only [hin, bE, go_sem, ↓reduceIte, Nat.reduceEqDiff, Nat.reduceBEq, iL]
    rw [sqR_star]
    exact D.Le.refl _
  | zero hk hks =>
   subst hk hks
   simp +contextual -implicitDefEqProofs only [at0, D.sub, Int.cast_ofNat_Int, Int.reduceLT, Int.reduceBEq, D.isAg, lN, lC, List.length_nil, go_sem, ↓reduceIte, Nat.reduceEqDiff, Nat.reduceAdd, Nat.reduceLeDiff, Nat.reduceLT]
   refine callQ_self (ds := [eI n, .fn f5 [.pt (eE (.mk 1 v nn [])) 0, .pt (eM (gs, (n : Int), T, A)) 0, .pt (rKids n []) 0]]) (by rw [eE_mk]; rfl) (hc1 n f5 _ (relOp (gs, (n : Int), T, A) 1 v []) (by omega) (fun x y hx hy => hc5 (gs, (n : Int), T, A) n 1 v nn [] x y hM [] hx hy rfl (.zero rfl rfl) (by decide))) ?_
   rw [show ((some false, tabL n fun x => (some false, tabL n (relOp (gs, (n : Int), T, A) 1 v [] x))) : SL (SL Bool)) = rTab n (relOp (gs, (n : Int), T, A) 1 v []) from rfl, rD_eq]
   simp +contextual -implicitDefEqProofs only [go_sem, ↓reduceIte, Nat.reduceEqDiff, Nat.reduceBEq, Nat.reduceBneDiff]
  | one hk hks =>
   subst hk hks
   simp +contextual -implicitDefEqProofs only [at0, D.sub, Int.cast_ofNat_Int, Int.reduceLT, Int.reduceBEq, D.isAg, lN, lC, List.length_nil, go_sem, ↓reduceIte, Nat.reduceEqDiff, Nat.reduceAdd, Nat.reduceLeDiff, Nat.reduceLT]
   refine callQ_self (ds := [eI n, .fn f5 [.pt (eE (.mk 2 v nn [])) 0, .pt (eM (gs, (n : Int), T, A)) 0, .pt (rKids n []) 0]]) (by rw [eE_mk]; rfl) (hc1 n f5 _ (relOp (gs, (n : Int), T, A) 2 v []) (by omega) (fun x y hx hy => hc5 (gs, (n : Int), T, A) n 2 v nn [] x y hM [] hx hy rfl (.one rfl rfl) (by decide))) ?_
   rw [show ((some false, tabL n fun x => (some false, tabL n (relOp (gs, (n : Int), T, A) 2 v [] x))) : SL (SL Bool)) = rTab n (relOp (gs, (n : Int), T, A) 2 v []) from rfl, rD_eq]
   simp +contextual -implicitDefEqProofs only [go_sem, ↓reduceIte, Nat.reduceEqDiff, Nat.reduceBEq, Nat.reduceBneDiff]
  | test hk hks h0 h1 =>
   subst hk hks
   simp +contextual -implicitDefEqProofs only [at0, D.sub, Int.cast_ofNat_Int, Int.reduceLT, Int.reduceBEq, D.isAg, lN, lC, List.length_nil, go_sem, ↓reduceIte, Nat.reduceEqDiff, Nat.reduceAdd, Nat.reduceLeDiff, Nat.reduceLT]
   refine callQ_self (ds := [eI n, .fn f5 [.pt (eE (.mk 3 v nn [])) 0, .pt (eM (gs, (n : Int), T, A)) 0, .pt (rKids n []) 0]]) (by rw [eE_mk]; rfl) (hc1 n f5 _ (relOp (gs, (n : Int), T, A) 3 v []) (by omega) (fun x y hx hy => hc5 (gs, (n : Int), T, A) n 3 v nn [] x y hM [] hx hy rfl (.test rfl rfl h0 h1) (by decide))) ?_
   rw [show ((some false, tabL n fun x => (some false, tabL n (relOp (gs, (n : Int), T, A) 3 v [] x))) : SL (SL Bool)) = rTab n (relOp (gs, (n : Int), T, A) 3 v []) from rfl, rD_eq]
   simp +contextual -implicitDefEqProofs only [go_sem, ↓reduceIte, Nat.reduceEqDiff, Nat.reduceBEq, Nat.reduceBneDiff]
  | nt hk a hks =>
   subst hk hks
   simp +contextual -implicitDefEqProofs only [at0, D.sub, Int.cast_ofNat_Int, Int.reduceLT, Int.reduceBEq, D.isAg, lN, lC, List.length_cons, List.length_nil, go_sem, ↓reduceIte, Nat.reduceEqDiff, Nat.reduceAdd, Nat.reduceLeDiff, Nat.reduceLT]
   refine callQ_self (ds := [eI n, .fn f5 [.pt (eE (.mk 5 v nn [a])) 0, .pt (eM (gs, (n : Int), T, A)) 0, .pt (rKids n [relE (gs, (n : Int), T, A) a]) 0]]) (by rw [eE_mk]; rfl) (hc1 n f5 _ (relOp (gs, (n : Int), T, A) 5 v [relE (gs, (n : Int), T, A) a]) (by omega) (fun x y hx hy => hc5 (gs, (n : Int), T, A) n 5 v nn [a] x y hM [relE (gs, (n : Int), T, A) a] hx hy rfl (.nt rfl a rfl) (by decide))) ?_
   rw [show ((some false, tabL n fun x => (some false, tabL n (relOp (gs, (n : Int), T, A) 5 v [relE (gs, (n : Int), T, A) a] x))) : SL (SL Bool)) = rTab n (relOp (gs, (n : Int), T, A) 5 v [relE (gs, (n : Int), T, A) a]) from rfl, rD_eq]
   simp +contextual -implicitDefEqProofs only [go_sem, ↓reduceIte, Nat.reduceEqDiff, Nat.reduceBEq, Nat.reduceBneDiff]
  | sum hk a b hks =>
   subst hk hks
   simp +contextual -implicitDefEqProofs only [at0, D.sub, Int.cast_ofNat_Int, Int.reduceLT, Int.reduceBEq, D.isAg, lN, lC, List.length_cons, List.length_nil, go_sem, ↓reduceIte, Nat.reduceEqDiff, Nat.reduceAdd, Nat.reduceLeDiff, Nat.reduceLT]
   refine callQ_self (ds := [eI n, .fn f5 [.pt (eE (.mk 6 v nn [a, b])) 0, .pt (eM (gs, (n : Int), T, A)) 0, .pt (rKids n [relE (gs, (n : Int), T, A) a, relE (gs, (n : Int), T, A) b]) 0]]) (by rw [eE_mk]; rfl) (hc1 n f5 _ (relOp (gs, (n : Int), T, A) 6 v [relE (gs, (n : Int), T, A) a, relE (gs, (n : Int), T, A) b]) (by omega) (fun x y hx hy => hc5 (gs, (n : Int), T, A) n 6 v nn [a, b] x y hM [relE (gs, (n : Int), T, A) a, relE (gs, (n : Int), T, A) b] hx hy rfl (.sum rfl a b rfl) (by decide))) ?_
   rw [show ((some false, tabL n fun x => (some false, tabL n (relOp (gs, (n : Int), T, A) 6 v [relE (gs, (n : Int), T, A) a, relE (gs, (n : Int), T, A) b] x))) : SL (SL Bool)) = rTab n (relOp (gs, (n : Int), T, A) 6 v [relE (gs, (n : Int), T, A) a, relE (gs, (n : Int), T, A) b]) from rfl, rD_eq]
   simp +contextual -implicitDefEqProofs only [go_sem, ↓reduceIte, Nat.reduceEqDiff, Nat.reduceBEq, Nat.reduceBneDiff]
end Go.Ax
namespace Go.Ax
set_option maxRecDepth 20000
set_option maxHeartbeats 4000000

def relS (z : Option Bool) (m : Mo) (e : Ex) : SL (SL Bool) × Int := if okMo m = true ∧ okE m.1 e = true then (rTab m.2.1.toNat (relE m e), 0) else ((z, []), 1)
theorem relS_eq {z : Option Bool} {m : Mo} {n : Nat} {e : Ex} (h1 : okMo m = true) (h2 : okE m.1 e = true) (hM : MoOk m n) : relS z m e = (rTab n (relE m e), 0) := by
 have hn : m.2.1.toNat = n := by rw [hM.pts]; rfl
 simp [relS, h1, h2, hn]
theorem rTab_fst {n : Nat} {R : Rel} : (rTab n R).1 = some false := rfl
theorem rTab_map {n : Nat} {R : Rel} : (rTab n R).2.map (eS 1 eB) = rD n R := (D.ls.inj (rD_eq (n := n) (R := R))).2.2
theorem okE_tree {g : Int × Int} {e : Ex} (h : okE g e = true) : treeE g e = true := by
 simp only [okE, bA] at h
 exact h.2.2

def k_imRelationOf (f1 f2 f3 : Nat) : RC := (.seq (.reg false [⟨none, .box 2 5 (.t 0)⟩, ⟨none, .box 3 3 (.t 1)⟩, ⟨none, .mv 4 (.c (.ls (some true) 1 []))⟩, ⟨none, .mv 5 (.c (.sc (.int .i64 0)))⟩]) ((.seq ((.seq (.reg false [⟨none, .ld 6 true 5 (.t 2)⟩, ⟨none, .call (some 7) f1 [(.t 6)]⟩, ⟨none, .un 8 .not (.t 7)⟩, ⟨none, .mv 9 (.t 8)⟩, ⟨some (9, false), .fa 10 0 (.t 2)⟩, ⟨some (9, false), .ld 11 true 2 (.t 10)⟩, ⟨some (9, false), .ld 12 true 3 (.t 3)⟩, ⟨some (9, false), .call (some 13) f2 [(.t 11), (.t 12)]⟩, ⟨some (9, false), .un 14 .not (.t 13)⟩, ⟨none, .pick 15 (.t 9) (.c (.sc (.bool true))) (.t 14)⟩]) (.cond (.t 15) ((.seq (.reg false [⟨none, .mv 4 (.c (.ls (some true) 1 []))⟩, ⟨none, .mv 5 (.c (.sc (.int .i64 1)))⟩]) (.ret))) (.skip)))) ((.seq (.reg false [⟨none, .ld 16 true 5 (.t 2)⟩, ⟨none, .ld 17 true 3 (.t 3)⟩, ⟨none, .call (some 18) f3 [(.t 16), (.t 17)]⟩, ⟨none, .mv 4 (.t 18)⟩, ⟨none, .mv 5 (.c (.sc (.int .i64 0)))⟩]) (.ret))))))
def K_imRelationOf (P : Program) (fno : Nat) : Prop := ∀ (m : Mo) (e : Ex), AF P fno [eM m, eE e] (.tup ([.own (eS 1 (eS 1 eB) (relS (some true) m e).1), .own (eI (relS (some true) m e).2)]))
theorem a_imRelationOf {P : Program} (hm : P.follows .mixedOrders = true) {g f1 f2 f3 : Nat} (hr : resF P g = some (19, k_imRelationOf f1 f2 f3, [.t 4, .t 5])) (hc1 : K_validModel P f1) (hc2 : K_isExpr P f2) (hc3 : K_relation P f3) : K_imRelationOf P g := by
 intro m e
 obtain ⟨k, v, nn, ks, rfl⟩ := Ex.ex e
 rw [eE_mk]
 refine af_of_res hr hm rfl fun hb => ?_
 simp +contextual -implicitDefEqProofs only [k_imRelationOf, eM, eS, eI, D.at, D.size, D.sizeL, D.sub, D.isAg, lN, lC, bne, bN, bU, go_sem, ↓reduceIte, Nat.reduceEqDiff, Nat.reduceAdd, Nat.reduceLeDiff, Nat.reduceBEq, Nat.reduceLT]
 refine callQ_self (ds := [eM m]) (by rfl) (hc1 m) ?_
 cases ho : okMo m
 ·rw [show relS (some true) m (.mk k v nn ks) = (((some true), []), 1) by simp [relS, ho]]
  simp +contextual -implicitDefEqProofs only [eB, bE, lN, bN, bU, go_sem, ↓reduceIte, Nat.reduceEqDiff]
 obtain ⟨n, hM⟩ := okMo_ok ho
 have hg := hM.g
 have hx := hc2 m.1 (.mk k v nn ks)
 rw [eE_mk] at hx
 simp +contextual -implicitDefEqProofs only [eB, D.at, D.sub, D.isAg, lN, lC, bT, go_sem, ↓reduceIte, Nat.reduceEqDiff, Nat.reduceLeDiff, Nat.reduceLT]
 refine callQ_self (ds := [eG m.1, .ag [.sc (.int .i64 k), .sc (.int .i64 v), .ls nn 3 (ks.map eE)]]) (by rfl) hx ?_
 cases hq : okE m.1 (.mk k v nn ks)
 ·rw [show relS (some true) m (.mk k v nn ks) = (((some true), []), 1) by simp [relS, hq]]
  simp +contextual -implicitDefEqProofs only [eB, bE, lN, bN, bU, go_sem, ↓reduceIte, Nat.reduceEqDiff]
 rw [relS_eq ho hq hM]
 have hr0 := hc3 m n (.mk k v nn ks) hM (okE_tree hq)
 rw [eE_mk] at hr0
 simp +contextual -implicitDefEqProofs only [eB, D.at, D.sub, D.isAg, lN, lC, bT, rTab_fst, rTab_map, go_sem, ↓reduceIte, Nat.reduceEqDiff, Nat.reduceLeDiff]
 refine callQ_self (ds := [eM m, .ag [.sc (.int .i64 k), .sc (.int .i64 v), .ls nn 3 (ks.map eE)]]) (by rfl) hr0 ?_
 simp +contextual -implicitDefEqProofs only [bE, bne, bN, bU, go_sem, ↓reduceIte, Nat.reduceEqDiff, Nat.reduceBEq]
end Go.Ax
namespace Go.Ax
set_option maxRecDepth 20000
set_option maxHeartbeats 4000000

theorem any_take {p : Int → Bool} {l : List Int} {i : Nat} (h : i < l.length) : (l.take (i + 1)).any p = ((l.take i).any p || p (l.getD i 0)) := by
 rw [List.take_succ_eq_append_getElem h, List.any_append]
 simp [h]
def iD (l : List Int) : List D := l.map eI
theorem iD_app {l : List Int} {v : Int} : iD (l ++ [v]) = iD l ++ [.sc (.int .i64 v)] := by simp [iD, eI]
theorem iD_nil : iD [] = [] := rfl
theorem iD_len {l : List Int} : (iD l).length = l.length := by simp [iD]
theorem iD_map {l : List Int} : l.map eI = iD l := rfl
def hasI (l : List Int) (v : Int) : Bool := l.any fun x => v == x
def k_l05Has : RC := (.seq (.reg false [⟨none, .mv 4 (.c (.sc (.bool false)))⟩]) ((.seq ((.seq (.reg false [⟨none, .mv 5 (.c (.sc (.int .i64 0)))⟩]) (.blk 0 (.loop ((.seq ((.seq (.reg false [⟨none, .mv 6 (.t 5)⟩, ⟨none, .mv 7 (.t 0)⟩, ⟨none, .len 8 (.t 7)⟩, ⟨none, .bin 9 .lss (.t 6) (.t 8)⟩]) (.cond (.t 9) (.skip) (.exit 0)))) ((.seq (.blk 1 ((.seq (.reg false [⟨none, .mv 12 (.t 0)⟩, ⟨none, .mv 13 (.t 5)⟩, ⟨none, .ia 14 1 (.t 12) (.t 13)⟩, ⟨none, .ld 15 false 1 (.t 14)⟩, ⟨none, .mv 16 (.t 1)⟩, ⟨none, .bin 17 .eql (.t 15) (.t 16)⟩]) (.cond (.t 17) ((.seq (.reg false [⟨none, .mv 4 (.c (.sc (.bool true)))⟩]) (.ret))) (.skip))))) (.reg false [⟨none, .mv 10 (.t 5)⟩, ⟨none, .bin 11 .add (.t 10) (.c (.sc (.int .i64 1)))⟩, ⟨none, .mv 5 (.t 11)⟩]))))))))) ((.seq (.reg false [⟨none, .mv 4 (.c (.sc (.bool false)))⟩]) (.ret))))))
def K_l05Has (P : Program) (fno : Nat) : Prop := ∀ (s : SL Int) (v : Int), AF P fno [eS 1 eI s, eI v] (.own (eB (hasI s.2 v)))
theorem a_l05Has {P : Program} (hm : P.follows .mixedOrders = true) {g : Nat} (hr : resF P g = some (18, k_l05Has, [.t 4])) : K_l05Has P g := by
 intro s v
 refine af_of_res hr hm rfl fun hb => ?_
 have hl := bd_ls hb.1
 simp only [lM] at hl
 simp +contextual -implicitDefEqProofs only [k_l05Has, eS, go_sem, eI, eB, ↓reduceIte, Nat.reduceAdd]
 refine vc_onU (α := Nat) [4, 5, 6, 7, 8, 9, 10, 11, 12, 13, 14, 15, 16, 17] (fun i => [(5, .im none (.sc (.int .i64 i)))]) (fun i => []) (fun i => i ≤ s.2.length ∧ (s.2.take i).any (fun x => v == x) = false) (fun i => s.2.length - i) 0 (Ent.to [] (by simp only [go_sem]; rfl) rfl (by simp) (by rfl) (by simp only [subEnv, go_sem, ↓reduceIte, Nat.reduceEqDiff, keep, memN] <;> simp)) ⟨Nat.zero_le _, rfl⟩ ?_
 rintro i ⟨hi0, hi1⟩
 by_cases hi : i < s.2.length
 ·have e1 := at_mapD (f := eI) (d := 0) hi
  have e2 := any_take (p := fun x => v == x) hi
  rw [hi1, Bool.false_or] at e2
  by_cases hp : s.2.getD i 0 = v
  ·have hp' : (s.2.getD i 0 == v) = true := by simpa using hp
   have e3 : hasI s.2 v = true := by
    unfold hasI
    rw [← List.take_append_drop (i + 1) s.2, List.any_append, e2, show (v == s.2.getD i 0) = true by simpa using hp.symm, Bool.true_or]
   rw [e3]
   simp +contextual -implicitDefEqProofs only [hi, e1, eI, Int.toNat_natCast, hp', go_sem, ↓reduceIte, Nat.reduceEqDiff, Nat.reduceLeDiff, Nat.reduceLT, iL, lM, iN]
  ·have hp' : (s.2.getD i 0 == v) = false := by simpa using hp
   have e3 : (v == s.2.getD i 0) = false := by simpa using Ne.symm hp
   simp +contextual -implicitDefEqProofs only [hi, e1, eI, Int.toNat_natCast, hp', go_sem, ↓reduceIte, Nat.reduceEqDiff, Nat.reduceLeDiff, Nat.reduceLT, iL, lM, iN]
   rw [wrap_i64 (by omega) (by omega)]
   exact ⟨i + 1, ⟨by omega, by rw [e2, e3]⟩, by omega, Ent.to [] (by simp only [go_sem]; rfl) rfl (by simp) (by rfl) (by simp only [subEnv, go_sem, ↓reduceIte, Nat.reduceEqDiff] <;> simp)⟩
 ·obtain rfl : i = s.2.length := by omega
  rw [List.take_length] at hi1
  rw [show hasI s.2 v = false from hi1]
  simp +contextual -implicitDefEqProofs only [hi, go_sem, ↓reduceIte, Nat.reduceEqDiff, iL, lM]

end Go.Ax
namespace Go.Ax
set_option maxRecDepth 20000
set_option maxHeartbeats 4000000
def k_p6Model (f1 f2 : Nat) : RC := (.seq (.reg false [⟨none, .box 3 2 (.t 1)⟩, ⟨none, .zer 4 5 (.ag [(.sc (.int .i64 0)), (.sc (.int .i64 0)), (.sc (.int .i64 0)), (.ls (some true) 1 []), (.ls (some true) 1 [])])⟩]) ((.seq (.reg true [⟨none, .mv 5 (.t 0)⟩, ⟨none, .call (some 6) f1 [(.t 5)]⟩, ⟨none, .ld 7 true 2 (.t 3)⟩, ⟨none, .wcl (some 8) f2 [(.t 6), (.t 7), (.c (.sc (.int .i64 4)))]⟩, ⟨none, .st 5 (.t 4) (.t 8)⟩]) (.ret))))
def K_p6Model (P : Program) (fno : Nat) : Prop := ∀ (nn : Option Bool) (c : List Int) (g : Int × Int), srcOk c → okG g = true → ∃ mo, mo.1 = g ∧ okMo mo = true ∧ mo.2.1 ≤ 4 ∧ 1 ≤ mo.2.1 ∧ AF P fno [.ls nn 1 (c.map eU), eG g] (.own (eM mo))
theorem a_p6Model {P : Program} (hm : P.follows .mixedOrders = true) {g f1 f2 : Nat} (hr : resF P g = some (9, k_p6Model f1 f2, [.c 4 5 true])) (hc1 : K_l00From P f1) (hc2 : K_l05Draw P f2) : K_p6Model P g := by
 intro nn c g hc hg
 obtain ⟨a1, sd1, mo, s1, s2, s3, s4, s5, s6, hE⟩ := hc2 nn c 0 0 g 4 hc hg (by omega) (by omega) (by omega) (by omega)
 refine ⟨mo, s3, s4, s5, s6, ?_⟩
 refine af_of_res hr hm rfl fun hb => ?_
 simp +contextual -implicitDefEqProofs only [k_p6Model, eI, eG, eM, eS, D.size, D.sizeL, bne, bN, bU, go_sem, ↓reduceIte, Nat.reduceEqDiff, Nat.reduceAdd, Nat.reduceBEq, Nat.reduceLT]
 refine callQ_self ?_ (hc1 nn c) ?_
 ·exact rfl
 simp +contextual -implicitDefEqProofs only [srcD, D.size, D.sizeL, D.isAg, D.sub, bne, bN, bU, go_sem, ↓reduceIte, Nat.reduceEqDiff, Nat.reduceAdd, Nat.reduceLeDiff, Nat.reduceBEq]
 refine wcl_self [6] [] (by rfl) (by rfl) (by rfl) hE rfl (by simp [wOut, outU, uS, srcD, noPtrs, D.noPtr, shWL, AV.shW, posW, shUs, U.shW, St.unit, lu]) ?_
 simp +contextual -implicitDefEqProofs only [uS, srcD, eI, eM, eS, D.put, D.size, D.sizeL, D.isAg, D.sub, modeOf, noPtrs, bne, bN, Bool.true_and, bU, Bool.and_false, Bool.or_false, go_sem, ↓reduceIte, Nat.reduceEqDiff, Nat.reduceAdd, Nat.reduceLeDiff, Nat.reduceBEq, Nat.reduceLT]
theorem take_getD {α : Type} {l : List α} {i : Nat} {d : α} (h : i < l.length) : l.take (i + 1) = l.take i ++ [l.getD i d] := by
 rw [List.take_succ_eq_append_getElem h]; simp [h]

theorem all_take {α : Type} {p : α → Bool} {l : List α} {i : Nat} {d : α} (h : i < l.length) : (l.take (i + 1)).all p = ((l.take i).all p && p (l.getD i d)) := by
 rw [take_getD (d := d) h, List.all_append]; simp
theorem all_false {α : Type} {p : α → Bool} {l : List α} {i : Nat} (h : (l.take i).all p = false) : l.all p = false := by
 rw [← List.take_append_drop i l, List.all_append, h, Bool.false_and]

def k_f6square : RC := (.seq (.reg false [⟨none, .mv 4 (.c (.sc (.bool false)))⟩]) ((.seq ((.seq (.reg false [⟨none, .mv 6 (.t 0)⟩, ⟨none, .len 7 (.t 6)⟩, ⟨none, .mv 8 (.t 1)⟩, ⟨none, .bin 9 .neq (.t 7) (.t 8)⟩]) (.cond (.t 9) ((.seq (.reg false [⟨none, .mv 4 (.c (.sc (.bool false)))⟩]) (.ret))) (.skip)))) ((.seq ((.seq (.reg false [⟨none, .mv 5 (.c (.sc (.int .i64 0)))⟩]) (.blk 0 (.loop ((.seq ((.seq (.reg false [⟨none, .mv 10 (.t 5)⟩, ⟨none, .mv 11 (.t 0)⟩, ⟨none, .len 12 (.t 11)⟩, ⟨none, .bin 13 .lss (.t 10) (.t 12)⟩]) (.cond (.t 13) (.skip) (.exit 0)))) ((.seq (.blk 1 ((.seq (.reg false [⟨none, .mv 16 (.t 0)⟩, ⟨none, .mv 17 (.t 5)⟩, ⟨none, .ia 18 1 (.t 16) (.t 17)⟩, ⟨none, .ld 19 false 1 (.t 18)⟩, ⟨none, .len 20 (.t 19)⟩, ⟨none, .mv 21 (.t 1)⟩, ⟨none, .bin 22 .neq (.t 20) (.t 21)⟩]) (.cond (.t 22) ((.seq (.reg false [⟨none, .mv 4 (.c (.sc (.bool false)))⟩]) (.ret))) (.skip))))) (.reg false [⟨none, .mv 14 (.t 5)⟩, ⟨none, .bin 15 .add (.t 14) (.c (.sc (.int .i64 1)))⟩, ⟨none, .mv 5 (.t 15)⟩]))))))))) ((.seq (.reg false [⟨none, .mv 4 (.c (.sc (.bool true)))⟩]) (.ret))))))))
def K_f6square (P : Program) (fno : Nat) : Prop := ∀ (t : SL (SL Bool)) (n : Int), AF P fno [eS 1 (eS 1 eB) t, eI n] (.own (eB (tabOk n n t)))
theorem a_f6square {P : Program} (hm : P.follows .mixedOrders = true) {g : Nat} (hr : resF P g = some (23, k_f6square, [.t 4])) : K_f6square P g := by
 intro t n
 refine af_of_res hr hm rfl fun hb => ?_
 have hl := bd_ls hb.1
 simp only [lM] at hl
 by_cases hlen : (t.2.length : Int) = n
 case neg =>
  have h1 : ((t.2.length : Int) == n) = false := by simpa using hlen
  rw [show tabOk n n t = false by simp [tabOk, lenIs, h1]]
  simp +contextual -implicitDefEqProofs only [k_f6square, eS, h1, bne, bN, lM, go_sem, eI, eB, ↓reduceIte, Nat.reduceEqDiff, Nat.reduceAdd]
 have h1 : ((t.2.length : Int) == n) = true := by simpa using hlen
 rw [show tabOk n n t = t.2.all (lenIs n) by simp [tabOk, lenIs, h1]]
 simp +contextual -implicitDefEqProofs only [k_f6square, eS, eB, h1, bne, bT, lM, go_sem, eI, ↓reduceIte, Nat.reduceEqDiff, Nat.reduceAdd]
 refine vc_onU (α := Nat) [4, 5, 10, 11, 12, 13, 14, 15, 16, 17, 18, 19, 20, 21, 22] (fun i => [(5, .im none (.sc (.int .i64 i)))]) (fun i => []) (fun i => i ≤ t.2.length ∧ (t.2.take i).all (lenIs n) = true) (fun i => t.2.length - i) 0 (Ent.to [] (by simp only [go_sem]; rfl) rfl (by simp) (by rfl) (by simp only [subEnv, go_sem, ↓reduceIte, Nat.reduceEqDiff, keep, memN] <;> simp)) ⟨Nat.zero_le _, rfl⟩ ?_
 rintro i ⟨hi0, hi1⟩
 by_cases hi : i < t.2.length
 ·have e1 := at_mapD (f := eS 1 eB) (d := (none, [])) hi
  have e2 := all_take (p := lenIs n) (d := (none, [])) hi
  rw [hi1, Bool.true_and] at e2
  cases hp : lenIs n (t.2.getD i (none, []))
  ·have hp' : ((((t.2.getD i (none, [])).2.length : Nat) : Int) == n) = false := hp
   rw [all_false (e2.trans hp)]
   simp +contextual -implicitDefEqProofs only [hi, e1, eS, Int.toNat_natCast, hp', bne, bN, iL, lM, go_sem, ↓reduceIte, Nat.reduceEqDiff, Nat.reduceLeDiff, Nat.reduceLT, iN]
  ·have hp' : ((((t.2.getD i (none, [])).2.length : Nat) : Int) == n) = true := hp
   simp +contextual -implicitDefEqProofs only [hi, e1, eS, Int.toNat_natCast, hp', bne, bT, iL, lM, go_sem, ↓reduceIte, Nat.reduceEqDiff, Nat.reduceLeDiff, Nat.reduceLT, iN]
   rw [wrap_i64 (by omega) (by omega)]
   exact ⟨i + 1, ⟨by omega, e2.trans hp⟩, by omega, Ent.to [] (by simp only [go_sem]; rfl) rfl (by simp) (by rfl) (by simp only [subEnv, go_sem, ↓reduceIte, Nat.reduceEqDiff] <;> simp)⟩
 ·obtain rfl : i = t.2.length := by omega
  rw [List.take_length] at hi1
  rw [hi1]
  simp +contextual -implicitDefEqProofs only [hi, iL, lM, go_sem, ↓reduceIte, Nat.reduceEqDiff]
end Go.Ax
namespace Go.Ax
set_option maxRecDepth 20000
set_option maxHeartbeats 4000000
end Go.Ax
namespace Go.Ax
set_option maxRecDepth 20000
set_option maxHeartbeats 4000000

def k_f6big : RC := (.seq (.reg false [⟨none, .mv 2 (.c (.sc (.bool false)))⟩]) ((.seq (.reg false [⟨none, .mv 3 (.t 0)⟩, ⟨none, .len 4 (.t 3)⟩, ⟨none, .bin 5 .gtr (.t 4) (.c (.sc (.int .i64 4096)))⟩, ⟨none, .mv 2 (.t 5)⟩]) (.ret))))
def K_f6big (P : Program) (fno : Nat) : Prop := ∀ (nn : Option Bool) (c : List Int), AF P fno [.ls nn 1 (c.map eU)] (.own (eB (decide ((c.length : Int) > 4096))))
theorem a_f6big {P : Program} (hm : P.follows .mixedOrders = true) {g : Nat} (hr : resF P g = some (6, k_f6big, [.t 2])) : K_f6big P g := by
 intro nn c
 refine af_of_res hr hm rfl fun hb => ?_
 simp +contextual -implicitDefEqProofs only [k_f6big, eB, lM, go_sem, ↓reduceIte, Nat.reduceEqDiff]
theorem okE_drn {g : Int × Int} {e : Ex} {s : Int} (h : Drn g false s 7 e) (hs : s ≤ 200) : okE g e = true := by
 obtain ⟨h1, _, _, _, h5, h6⟩ := h
 simp only [okE, bA, decide_eq_true_eq]
 exact ⟨by omega, by omega, h1⟩
end Go.Ax
namespace Go.Ax
set_option maxHeartbeats 1000000

structure Emb (m m2 : Mo) (n n2 : Nat) (φ : Nat → Nat) : Prop where
 ok : MoOk m n
 ok2 : MoOk m2 n2
 sg : m2.1 = m.1
 lt : ∀ x, x < n → φ x < n2
 inj : ∀ x y, x < n → y < n → φ x = φ y → x = y
 tst : ∀ (v : Int) x, 0 ≤ v → v.toNat < m.2.2.1.2.length → x < n → testOf m2 v (φ x) = testOf m v x
 act : ∀ (v : Int) x y', 0 ≤ v → v.toNat < m.2.2.2.2.length → x < n → y' < n2 → (relOf (actOf m2 v) (φ x) y' = true ↔ ∃ y, y < n ∧ φ y = y' ∧ relOf (actOf m v) x y = true)
def EmbR (n n2 : Nat) (φ : Nat → Nat) (A A2 : Rel) : Prop := ∀ x y', x < n → y' < n2 → (A2 (φ x) y' = true ↔ ∃ y, y < n ∧ φ y = y' ∧ A x y = true)
section
variable {m m2 : Mo} {n n2 : Nat} {φ : Nat → Nat} {A A2 B B2 : Rel}
theorem EmbR.at (lt : ∀ x, x < n → φ x < n2) (inj : ∀ x y, x < n → y < n → φ x = φ y → x = y) (h : EmbR n n2 φ A A2) {x y : Nat} (hx : x < n) (hy : y < n) : A2 (φ x) (φ y) = A x y := by
 rw [Bool.eq_iff_iff, h x (φ y) hx (lt y hy)]
 constructor
 ·rintro ⟨z, h1, h2, h3⟩
  rw [inj z y h1 hy h2] at h3
  exact h3
 ·intro h3; exact ⟨y, hy, rfl, h3⟩
theorem EmbR.dot (lt : ∀ x, x < n → φ x < n2) (h : EmbR n n2 φ A A2) (h' : EmbR n n2 φ B B2) : EmbR n n2 φ (dotR n A B) (dotR n2 A2 B2) := by
 intro x y' hx hy
 simp only [dotR, dotU, List.any_eq_true, bA, List.mem_range]
 constructor
 ·rintro ⟨k', hk, h1, h2⟩
  obtain ⟨k, q1, rfl, q3⟩ := (h x k' hx hk).1 h1
  obtain ⟨y, p1, p2, p3⟩ := (h' k y' q1 hy).1 h2
  exact ⟨y, p1, p2, k, q1, q3, p3⟩
 ·rintro ⟨y, p1, p2, k, q1, q2, q3⟩
  exact ⟨φ k, lt k q1, (h x (φ k) hx (lt k q1)).2 ⟨k, q1, rfl, q2⟩, (h' k y' q1 hy).2 ⟨y, p1, p2, q3⟩⟩
theorem star_one {x y : Nat} (h : A x y = true) : starR n A x y = true := warR_le (Nat.zero_le n) (by simp [warR, h])
theorem star_trans {x z y : Nat} (hz : z < n) (h : starR n A x z = true) (h' : starR n A z y = true) : starR n A x y = true := warR_trans hz h h'
theorem EmbR.star (lt : ∀ x, x < n → φ x < n2) (h : EmbR n n2 φ A A2) : EmbR n n2 φ (starR n A) (starR n2 A2) := by
 intro x y' hx hy
 constructor
 ·suffices H : ∀ k, k ≤ n2 → ∀ x y', x < n → y' < n2 → warR A2 k (φ x) y' = true → ∃ y, y < n ∧ φ y = y' ∧ starR n A x y = true from H n2 (Nat.le_refl _) x y' hx hy
  intro k
  induction k with
  | zero =>
   intro _ x y' hx hy hw
   simp only [warR, Bool.or_eq_true] at hw
   rcases hw with hw | hw
   ·obtain ⟨y, p1, p2, p3⟩ := (h x y' hx hy).1 hw
    exact ⟨y, p1, p2, star_one p3⟩
   ·exact ⟨x, hx, by simpa using hw, warR_refl⟩
  | succ k ih =>
   intro hk x y' hx hy hw
   simp only [warR, Bool.or_eq_true, bA] at hw
   rcases hw with hw | ⟨h1, h2⟩
   ·exact ih (by omega) x y' hx hy hw
   ·obtain ⟨z, p1, rfl, p3⟩ := ih (by omega) x k hx (by omega) h1
    obtain ⟨y, q1, q2, q3⟩ := ih (by omega) z y' p1 hy h2
    exact ⟨y, q1, q2, star_trans p1 p3 q3⟩
 ·rintro ⟨y, p1, rfl, p3⟩
  suffices H : ∀ k, k ≤ n → ∀ x y, x < n → y < n → warR A k x y = true → starR n2 A2 (φ x) (φ y) = true from H n (Nat.le_refl _) x y hx p1 p3
  intro k
  induction k with
  | zero =>
   intro _ x y hx hy hw
   simp only [warR, Bool.or_eq_true] at hw
   rcases hw with hw | hw
   ·exact star_one ((h x (φ y) hx (lt y hy)).2 ⟨y, hy, rfl, hw⟩)
   ·rw [show x = y by simpa using hw]; exact warR_refl
  | succ k ih =>
   intro hk x y hx hy hw
   simp only [warR, Bool.or_eq_true, bA] at hw
   rcases hw with hw | ⟨h1, h2⟩
   ·exact ih (by omega) x y hx hy hw
   ·exact star_trans (lt k (by omega)) (ih (by omega) x k hx (by omega) h1) (ih (by omega) k y (by omega) hy h2)
theorem EmbR.diag (_lt : ∀ x, x < n → φ x < n2) (_inj : ∀ x y, x < n → y < n → φ x = φ y → x = y) {f f2 : Nat → Bool} (h : ∀ x, x < n → f2 (φ x) = f x) : EmbR n n2 φ (diagR f) (diagR f2) := by
 intro x y' hx hy
 simp only [diagR, bA, beq_iff_eq, h x hx]
 constructor
 ·rintro ⟨h1, h2⟩; exact ⟨x, hx, h1, rfl, h2⟩
 ·rintro ⟨y, h1, h2, h3, h4⟩; subst h3; exact ⟨h2, h4⟩

theorem Emb.rel (E : Emb m m2 n n2 φ) : ∀ e : Ex, treeE m.1 e = true → EmbR n n2 φ (relE m e) (relE m2 e) := by
 refine Ex.ind fun k v nn ks ih ht => ?_
 rw [treeE_mk, bA, List.all_eq_true] at ht
 have hn : m.2.1.toNat = n := by rw [E.ok.pts]; rfl
 have hn2 : m2.2.1.toNat = n2 := by rw [E.ok2.pts]; rfl
 rw [relE_mk, relE_mk]
 cases kind_ok E.ok ht.1 with
 | zero h hk =>
  subst h hk
  intro x y' hx hy
  simp [relOp, noneR]
 | one h hk =>
  subst h hk
  exact EmbR.diag E.lt E.inj fun _ _ => rfl
 | test h hk h0 h1 =>
  subst h hk
  exact EmbR.diag E.lt E.inj fun x hx => E.tst v x h0 h1 hx
 | act h hk h0 h1 =>
  subst h hk
  exact fun x y' hx hy => E.act v x y' h0 h1 hx hy
 | nt h a hk =>
  subst h hk
  have ia := ih a (by simp) (ht.2 a (by simp))
  refine EmbR.diag E.lt E.inj fun x hx => ?_
  simp only [lC, List.getD_cons_zero]
  rw [ia.at E.lt E.inj hx hx]
 | sum h a b hk =>
  subst h hk
  have ia := ih a (by simp) (ht.2 a (by simp))
  have ib := ih b (by simp) (ht.2 b (by simp))
  intro x y' hx hy
  simp only [relOp, lC, List.getD_cons_zero, List.getD_cons_succ, ↓reduceIte, show ¬ ((6 : Int) = 2) by decide, show ¬ ((6 : Int) = 3) by decide, show ¬ ((6 : Int) = 4) by decide, show ¬ ((6 : Int) = 5) by decide, Bool.or_eq_true]
  rw [ia x y' hx hy, ib x y' hx hy]
  constructor
  ·rintro (⟨y, h1, h2, h3⟩ | ⟨y, h1, h2, h3⟩)
   ·exact ⟨y, h1, h2, .inl h3⟩
   ·exact ⟨y, h1, h2, .inr h3⟩
  ·rintro ⟨y, h1, h2, h3 | h3⟩
   ·exact .inl ⟨y, h1, h2, h3⟩
   ·exact .inr ⟨y, h1, h2, h3⟩
 | dot h a b hk =>
  subst h hk
  have ia := ih a (by simp) (ht.2 a (by simp))
  have ib := ih b (by simp) (ht.2 b (by simp))
  have h7 : ∀ m : Mo, relOp m 7 v ([a, b].map (relE m)) = dotR m.2.1.toNat (relE m a) (relE m b) := fun m => rfl
  rw [h7, h7, hn, hn2]
  exact EmbR.dot E.lt ia ib
 | star h a hk =>
  subst h hk
  have ia := ih a (by simp) (ht.2 a (by simp))
  have h8 : ∀ m : Mo, relOp m 8 v ([a].map (relE m)) = starR m.2.1.toNat (relE m a) := fun m => rfl
  rw [h8, h8, hn, hn2]
  exact EmbR.star E.lt ia
end
end Go.Ax
namespace Go.Ax
theorem sub_perm : ∀ {a b : List Int}, a.Nodup → (∀ x ∈ a, x ∈ b) → a.length = b.length → a.Perm b
 | [], b, _, _, h => by
  have : b = [] := List.eq_nil_of_length_eq_zero (by simpa using h.symm)
  rw [this]
 | x :: a, b, hn, hs, h => by
  have hx := hs x (by simp)
  rw [List.nodup_cons] at hn
  have hp := List.perm_cons_erase hx
  have hl := List.length_erase_of_mem hx
  have hb := List.length_pos_of_mem hx
  have h2 : a.Perm (b.erase x) := sub_perm hn.2 (fun y hy => by
   have hne : y ≠ x := fun e => hn.1 (e ▸ hy)
   exact (List.mem_erase_of_ne hne).2 (hs y (by simp [hy]))) (by simp only [List.length_cons] at h; omega)
  exact (h2.cons x).trans hp.symm
def ints (p : Nat) : List Int := (List.range p).map fun (i : Nat) => (i : Int)
theorem ints_nodup (p : Nat) : (ints p).Nodup := by
 unfold ints List.Nodup
 rw [List.pairwise_map]
 exact List.nodup_range.imp fun h e => h (by omega)
theorem asc_get {l : List Int} (h : asc l = true) {i : Nat} (hi : i + 1 < l.length) : l.getD i 0 < l.getD (i + 1) 0 := by
 simp only [asc, ascI, List.all_eq_true, List.mem_range, decide_eq_true_eq] at h
 exact h i (by omega)
theorem asc_of {l : List Int} (h : l.Pairwise (· < ·)) : asc l = true := by
 simp only [asc, ascI, List.all_eq_true, List.mem_range, decide_eq_true_eq]
 intro i hi
 have h1 : i < l.length := by omega
 have h2 : i + 1 < l.length := by omega
 rw [List.getD_eq_getElem?_getD, List.getD_eq_getElem?_getD, List.getElem?_eq_getElem h1, List.getElem?_eq_getElem h2]
 exact List.pairwise_iff_getElem.1 h i (i + 1) h1 h2 (by omega)
theorem set_range {p : Nat} {l : List Int} (hl : l.length = p) (h : isSetB p l = true) : ∀ i, i < p → l.getD i 0 = i := by
 rw [isSetB, bA] at h
 obtain ⟨ha, hb⟩ := h
 simp only [allIn, isIn, List.all_eq_true, bA, decide_eq_true_eq] at hb
 have hm : ∀ i, i < p → l.getD i 0 ∈ l := fun i hi => by
  rw [List.getD_eq_getElem?_getD, List.getElem?_eq_getElem (by omega)]
  exact List.getElem_mem (by omega)
 have lo : ∀ i, i < p → (i : Int) ≤ l.getD i 0 := by
  intro i
  induction i with
  | zero => intro hi; exact (hb _ (hm 0 hi)).1
  | succ i ih =>
   intro hi
   have := ih (by omega)
   have := asc_get ha (i := i) (by omega)
   omega
 have up : ∀ k i, i + k + 1 = p → l.getD i 0 ≤ i := by
  intro k
  induction k with
  | zero => intro i hi; have := (hb _ (hm i (by omega))).2; omega
  | succ k ih =>
   intro i hi
   have := ih (i + 1) (by omega)
   have := asc_get ha (i := i) (by omega)
   omega
 intro i hi
 have := lo i hi
 have := up (p - 1 - i) i (by omega)
 omega
theorem renum_law (p : Nat) (l : List Int) (hl : l.length = p) : isSetB p (l.mergeSort fun x y => decide (x ≤ y)) = (List.range p).all fun (x : Nat) => decide ((x : Int) ∈ l) := by
 have hp := List.mergeSort_perm l fun x y => decide (x ≤ y)
 have hs : (l.mergeSort fun x y => decide (x ≤ y)).Pairwise fun x y => decide (x ≤ y) = true := List.pairwise_mergeSort (fun a b c h1 h2 => by simp only [decide_eq_true_eq] at *; omega) (fun a b => by simp only [Bool.or_eq_true, decide_eq_true_eq]; omega) l
 generalize (l.mergeSort fun x y => decide (x ≤ y)) = s at hp hs
 have hsl : s.length = p := by rw [hp.length_eq, hl]
 rw [Bool.eq_iff_iff, List.all_eq_true]
 simp only [List.mem_range, decide_eq_true_eq]
 constructor
 ·intro h x hx
  have := set_range hsl h x hx
  rw [← hp.mem_iff, ← this, List.getD_eq_getElem?_getD, List.getElem?_eq_getElem (by omega)]
  exact List.getElem_mem (by omega)
 ·intro h
  have hpr : (ints p).Perm l := sub_perm (ints_nodup p) (fun x hx => by
   obtain ⟨i, hi, rfl⟩ := List.mem_map.1 hx
   exact h i (List.mem_range.1 hi)) (by simp [ints, hl])
  have hps : (ints p).Perm s := hpr.trans hp.symm
  have hn : s.Nodup := hps.nodup_iff.1 (ints_nodup p)
  have hlt : s.Pairwise (· < ·) := by
   have := hs.and hn
   exact this.imp fun {a b} h => by
    have h1 : a ≤ b := by simpa using h.1
    have h2 : a ≠ b := h.2
    omega
  rw [isSetB, bA]
  refine ⟨asc_of hlt, ?_⟩
  simp only [allIn, isIn, List.all_eq_true, bA, decide_eq_true_eq]
  intro x hx
  obtain ⟨i, hi, rfl⟩ := List.mem_map.1 (hps.mem_iff.2 hx)
  have := List.mem_range.1 hi
  constructor <;> omega
theorem hasI_mem {l : List Int} {x : Int} : hasI l x = decide (x ∈ l) := by
 rw [Bool.eq_iff_iff]
 simp only [hasI, List.any_eq_true, decide_eq_true_eq, beq_iff_eq]
 exact ⟨fun ⟨y, h1, h2⟩ => h2 ▸ h1, fun h => ⟨x, h, rfl⟩⟩
theorem renum_has (p : Nat) (l : List Int) (hl : l.length = p) : isSetB p (l.mergeSort fun x y => decide (x ≤ y)) = (List.range p).all fun (x : Nat) => hasI l x := by
 rw [renum_law p l hl]
 simp only [hasI_mem]
end Go.Ax
namespace Go.Ax
set_option maxHeartbeats 1000000

theorem getD_int {l : List Int} {i : Nat} (h : i < l.length) : l.getD i 0 ∈ l := by simp [h]
theorem nodup_getD {l : List Int} (h : l.Nodup) {i j : Nat} (hi : i < l.length) (hj : j < l.length) (e : l.getD i 0 = l.getD j 0) : i = j := by
 rw [getD_at hi, getD_at hj] at e
 exact (List.getElem_inj h).1 e
theorem pick_ok2 {m : Mo} {n : Nat} {l : List Int} (hM : MoOk m n) (h1 : 1 ≤ l.length) (h8 : l.length ≤ 8) : MoOk (pickMo m l) l.length := by
 refine ⟨rfl, h1, h8, hM.g, ?_, ?_, ?_, ?_⟩
 ·simp only [pickMo, lM]; exact hM.tl
 ·intro r hr
  simp only [pickMo, List.mem_map] at hr
  obtain ⟨r', _, rfl⟩ := hr
  simp [tRow]
 ·simp only [pickMo, lM]; exact hM.al
 ·intro a ha
  simp only [pickMo, List.mem_map] at ha
  obtain ⟨a', _, rfl⟩ := ha
  refine ⟨by simp [aTab], fun r hr => ?_⟩
  simp only [aTab, List.mem_map] at hr
  obtain ⟨x, _, rfl⟩ := hr
  simp [tRow]
theorem pick_test {m : Mo} {l : List Int} {v : Int} {x : Nat} (hv : v.toNat < m.2.2.1.2.length) (hx : x < l.length) : testOf (pickMo m l) v x = testOf m v (l.getD x 0).toNat := by
 simp only [testOf, pickMo]
 rw [getD_at (d := (none, [])) (by simpa using hv), getD_at (d := (none, [])) hv, List.getElem_map]
 simp only [tRow]
 rw [getD_at (d := false) (by simpa using hx), List.getElem_map, getD_at hx]
theorem pick_act {m : Mo} {l : List Int} {v : Int} {x y : Nat} (hv : v.toNat < m.2.2.2.2.length) (hx : x < l.length) (hy : y < l.length) : relOf (actOf (pickMo m l) v) x y = relOf (actOf m v) (l.getD x 0).toNat (l.getD y 0).toNat := by
 simp only [actOf, pickMo, relOf]
 rw [getD_at (l := m.2.2.2.2.map _) (d := (none, [])) (by simpa using hv), getD_at (d := (none, [])) hv, List.getElem_map]
 simp only [aTab]
 rw [getD_at (d := (none, [])) (by simpa using hx), List.getElem_map, getD_at hx]
 simp only [tRow]
 rw [getD_at (d := false) (by simpa using hy), List.getElem_map, getD_at hy]

theorem pick_emb {m : Mo} {n : Nat} {l : List Int} (hM : MoOk m n) (h1 : 1 ≤ l.length) (h8 : l.length ≤ 8) (hr : ∀ x ∈ l, 0 ≤ x ∧ x.toNat < n) (hd : l.Nodup)
  (hc : ∀ (v : Int) x (y : Nat), 0 ≤ v → v.toNat < m.2.2.2.2.length → x ∈ l → y < n → relOf (actOf m v) x.toNat y = true → (y : Int) ∈ l) : Emb (pickMo m l) m l.length n fun x => (l.getD x 0).toNat where
 ok := pick_ok2 hM h1 h8
 ok2 := hM
 sg := rfl
 lt := fun x hx => (hr _ (getD_int hx)).2
 inj := fun x y hx hy e => by
  have a := hr _ (getD_int hx)
  have b := hr _ (getD_int hy)
  exact nodup_getD hd hx hy (by omega)
 tst := fun v x h0 hv hx => by
  rw [pick_test (by simpa [pickMo] using hv) hx]
 act := fun v x y' h0 hv hx hy => by
  have hv' : v.toNat < m.2.2.2.2.length := by simpa [pickMo] using hv
  constructor
  ·intro h
   have hm := hc v _ y' h0 hv' (getD_int hx) hy h
   obtain ⟨y, p1, p2⟩ := List.getElem_of_mem hm
   have e : (l.getD y 0).toNat = y' := by rw [getD_at p1, p2]; rfl
   refine ⟨y, p1, e, ?_⟩
   rw [pick_act hv' hx p1, e]
   exact h
  ·rintro ⟨y, p1, rfl, p3⟩
   rw [pick_act hv' hx p1] at p3
   exact p3

theorem swap_perm {l : List Int} {a : Nat} {x : Int} (ha : a ≤ l.length) : (((l ++ [x]).set a x).set l.length ((l ++ [x]).getD a 0)).Perm (l ++ [x]) := by
 by_cases h : a < l.length
 ·have e1 : (l ++ [x]).set a x = l.set a x ++ [x] := List.set_append_left _ _ h
  have e2 : (l ++ [x]).getD a 0 = l[a] := by rw [getD_at (by simp; omega), List.getElem_append_left h]
  have e3 : (l.set a x ++ [x]).set l.length l[a] = l.set a x ++ [l[a]] := by
   simp []
  rw [e1, e2, e3]
  have e4 : l = l.take a ++ l[a] :: l.drop (a + 1) := by rw [← List.drop_eq_getElem_cons h, List.take_append_drop]
  have e5 : l.set a x = l.take a ++ x :: l.drop (a + 1) := List.set_eq_take_append_cons_drop ▸ by simp [h]
  rw [e5]
  conv => rhs; rw [e4]
  simp only [List.append_assoc, List.cons_append]
  refine List.Perm.append_left _ ?_
  refine (List.perm_append_comm (l₁ := x :: l.drop (a + 1)) (l₂ := [l[a]])).trans ?_
  simp only [List.cons_append, List.nil_append]
  refine List.Perm.cons _ ?_
  exact List.perm_append_comm (l₁ := [x]) (l₂ := l.drop (a + 1))
 ·obtain rfl : a = l.length := by omega
  have e2 : (l ++ [x]).getD l.length 0 = x := by simp
  rw [e2]
  simp
theorem ints_succ {n : Nat} : ints (n + 1) = ints n ++ [(n : Int)] := by simp [ints, List.range_succ]
theorem ints_len {n : Nat} : (ints n).length = n := by simp [ints]
theorem ints_mem {n : Nat} {x : Int} : x ∈ ints n ↔ 0 ≤ x ∧ x < n := by
 simp only [ints, List.mem_map, List.mem_range]
 constructor
 ·rintro ⟨i, h, rfl⟩; omega
 ·intro h; exact ⟨x.toNat, by omega, by omega⟩
theorem order_emb {m : Mo} {n : Nat} {l : List Int} (hM : MoOk m n) (hp : l.Perm (ints n)) : Emb (pickMo m l) m n n fun x => (l.getD x 0).toNat := by
 have hl : l.length = n := by rw [hp.length_eq, ints_len]
 have h1 := hM.n1
 have h8 := hM.n8
 have := pick_emb (l := l) hM (by omega) (by omega) (fun x hx => by have := ints_mem.1 (hp.mem_iff.1 hx); omega) (hp.nodup_iff.2 (ints_nodup n)) (fun v x y _ _ _ hy _ => hp.mem_iff.2 (ints_mem.2 (by omega)))
 rwa [hl] at this
theorem order_set {n : Nat} {l : List Int} (hp : l.Perm (ints n)) : isSetB n (l.mergeSort fun x y => decide (x ≤ y)) = true := by
 have hl : l.length = n := by rw [hp.length_eq, ints_len]
 rw [renum_law n l hl, List.all_eq_true]
 intro x hx
 have := List.mem_range.1 hx
 exact decide_eq_true (hp.mem_iff.2 (ints_mem.2 (by omega)))
end Go.Ax
namespace Go.Ax
set_option maxRecDepth 20000
set_option maxHeartbeats 4000000
end Go.Ax
namespace Go.Ax
set_option maxRecDepth 20000
set_option maxHeartbeats 4000000
def iOf (a : SL (SL Int)) (x y : Nat) : Int := (a.2.getD x (none, [])).2.getD y 0
structure SqI (n : Nat) (a : SL (SL Int)) : Prop where
 len : a.2.length = n
 row : ∀ r ∈ a.2, r.2.length = n
theorem SqI.rows {n x : Nat} {a : SL (SL Int)} (h : SqI n a) (hx : x < n) : (a.2.getD x (none, [])).2.length = n := h.row _ (getD_mem (by rw [h.len]; exact hx))
theorem SqI.at {n x : Nat} {a : SL (SL Int)} (h : SqI n a) (hx : x < n) : D.at (a.2.map (eS 1 eI)) x = .ls (a.2.getD x (none, [])).1 1 ((a.2.getD x (none, [])).2.map eI) := at_mapD (by rw [h.len]; exact hx)
theorem SqI.at2 {n x y : Nat} {a : SL (SL Int)} (h : SqI n a) (hx : x < n) (hy : y < n) : D.at ((a.2.getD x (none, [])).2.map eI) y = .sc (.int .i64 (iOf a x y)) := at_mapD (by rw [h.rows hx]; exact hy)
def zeroMo : Mo := ((0, 0), 0, (some true, []), (some true, []))
theorem np_B : ∀ {l : List Bool}, noPtrs (l.map eB) = true
 | [] => rfl
 | b :: l => by simp only [lC, noPtrs, np_B (l := l), eB, D.noPtr, Bool.and_self]
theorem sz_Bc {b : Bool} {l : List Bool} : ∀ e ∈ D.sc (.bool b) :: l.map eB, e.size = 1 := by
 intro e he
 rcases List.mem_cons.1 he with rfl | he
 ·rfl
 ·obtain ⟨x, _, rfl⟩ := List.mem_map.1 he; rfl
end Go.Ax
namespace Go.Ax
set_option maxRecDepth 20000
set_option maxHeartbeats 4000000

def K_growB (P : Program) (fno : Nat) : Prop := ∀ (n : Nat) (h0 : 0 < n) (h1 : n ≤ 1000), AF P fno [.ls (some true) 1 [], eI n] (.own (.ls (some false) 1 []))
def totB (L : List (SL Bool)) : Nat := (L.map fun r => r.2.length).sum
def catB (L : List (SL Bool)) : List Bool := (L.map fun r => r.2).flatten
theorem totB_take {L : List (SL Bool)} {i : Nat} (h : i < L.length) : totB (L.take (i + 1)) = totB (L.take i) + L[i].2.length := by
 rw [List.take_succ_eq_append_getElem h]
 simp only [totB, List.map_append, List.sum_append, lC, lN, List.sum_cons, List.sum_nil, Nat.add_zero]
theorem totB_le {L : List (SL Bool)} {i : Nat} : totB (L.take i) ≤ totB L := by
 have : totB L = totB (L.take i ++ L.drop i) := by rw [List.take_append_drop]
 rw [this]
 simp only [totB, List.map_append, List.sum_append]
 omega
theorem catB_take {L : List (SL Bool)} {i : Nat} (h : i < L.length) : (catB (L.take (i + 1))).map eB = (catB (L.take i)).map eB ++ L[i].2.map eB := by
 rw [List.take_succ_eq_append_getElem h]
 simp only [catB, List.map_append, List.flatten_append, lC, lN, List.flatten_cons, List.flatten_nil, List.append_nil]
theorem catB_len {L : List (SL Bool)} : (catB L).length = totB L := by simp [catB, totB, List.length_flatten, Function.comp_def]
theorem sz_B {l : List Bool} : ∀ e ∈ l.map eB, e.size = 1 := by
 intro e he
 obtain ⟨x, _, rfl⟩ := List.mem_map.1 he; rfl
theorem catB_nil : catB [] = [] := rfl
theorem totB_nil : totB [] = 0 := rfl

def k_concatB (f1 : Nat) (o1 o2 : Oper) : RC := (.seq (.reg false [⟨none, .mv 2 (.c (.ls (some true) 1 []))⟩]) ((.seq (.reg false [⟨none, .mv 3 (.c (.sc (.int .i64 0)))⟩]) ((.seq ((.seq (.reg false [⟨none, .mv 9 (.t 0)⟩, ⟨none, .len 10 (.t 9)⟩, ⟨none, .mv 11 (.c (.sc (.int .i64 0)))⟩]) (.blk 0 (.loop ((.seq (.reg false [⟨none, .bin 12 .lss (.t 11) (.t 10)⟩]) ((.seq (.cond (.t 12) (.skip) (.exit 0)) ((.seq (.blk 1 ((.seq (.reg false [⟨none, .ia 13 1 (.t 9) (.t 11)⟩, ⟨none, .ld 14 false 1 (.t 13)⟩, ⟨none, .mv 5 (.t 14)⟩]) ((.seq (.reg false [⟨none, .mv 15 (.t 3)⟩, ⟨none, .mv 16 (.t 5)⟩, ⟨none, .len 17 (.t 16)⟩, ⟨none, .bin 18 .add (.t 15) (.t 17)⟩, ⟨none, .mv 3 (.t 18)⟩]) ((.seq (.reg false [⟨none, .mv 19 (.t 3)⟩, ⟨none, .bin 20 .lss (.t 19) (.c (.sc (.int .i64 0)))⟩]) (.cond (.t 20) (.reg false [⟨none, .other o1⟩, ⟨none, .other o2⟩]) (.skip))))))))) (.reg false [⟨none, .bin 22 .add (.t 11) (.c (.sc (.int .i64 1)))⟩, ⟨none, .mv 11 (.t 22)⟩]))))))))))) ((.seq (.reg false [⟨none, .mv 23 (.t 3)⟩, ⟨none, .call (some 24) f1 [(.c (.ls (some true) 1 [])), (.t 23)]⟩, ⟨none, .mv 6 (.t 24)⟩]) ((.seq ((.seq (.reg false [⟨none, .mv 25 (.t 0)⟩, ⟨none, .len 26 (.t 25)⟩, ⟨none, .mv 27 (.c (.sc (.int .i64 0)))⟩]) (.blk 2 (.loop ((.seq (.reg false [⟨none, .bin 28 .lss (.t 27) (.t 26)⟩]) ((.seq (.cond (.t 28) (.skip) (.exit 2)) ((.seq (.blk 3 ((.seq (.reg false [⟨none, .ia 29 1 (.t 25) (.t 27)⟩, ⟨none, .ld 30 false 1 (.t 29)⟩, ⟨none, .mv 8 (.t 30)⟩]) (.reg false [⟨none, .mv 31 (.t 6)⟩, ⟨none, .mv 32 (.t 8)⟩, ⟨none, .app 33 1 1 (.t 31) (.t 32)⟩, ⟨none, .mv 6 (.t 33)⟩])))) (.reg false [⟨none, .bin 34 .add (.t 27) (.c (.sc (.int .i64 1)))⟩, ⟨none, .mv 27 (.t 34)⟩]))))))))))) ((.seq (.reg false [⟨none, .mv 35 (.t 6)⟩, ⟨none, .mv 2 (.t 35)⟩]) (.ret))))))))))))
def K_concatB (P : Program) (fno : Nat) : Prop := ∀ (L : List (SL Bool)) (hL : L.length ≤ 1000) (h0 : 0 < totB L) (h1 : totB L ≤ 1000), AF P fno [.ls (some false) 1 (L.map (eS 1 eB))] (.own (.ls (some false) 1 ((catB L).map eB)))
theorem a_concatB {P : Program} (hm : P.follows .mixedOrders = true) {g f1 : Nat} {o1 o2 : Oper} (hr : resF P g = some (36, k_concatB f1 o1 o2, [.t 2])) (hc1 : K_growB P f1) : K_concatB P g := by
 intro L hL h0 h1
 refine af_of_res hr hm rfl fun hb => ?_
 simp +contextual -implicitDefEqProofs only [k_concatB, lM, go_sem, ↓reduceIte, Nat.reduceEqDiff]
 refine vc_onU (α := Nat) [3, 5, 11, 12, 13, 14, 15, 16, 17, 18, 19, 20, 22] (fun i => [(11, .im none (.sc (.int .i64 i))), (3, .im none (.sc (.int .i64 (totB (L.take i)))))]) (fun i => []) (fun i => i ≤ L.length) (fun i => L.length - i) 0 (Ent.to [] (by simp only [go_sem]; rfl) rfl (by simp) (by rfl) (by simp only [subEnv, go_sem, ↓reduceIte, Nat.reduceEqDiff, keep, memN] <;> simp [totB_nil])) (Nat.zero_le _) ?_
 intro i hi0
 by_cases hi : i < L.length
 ·have e1 := at_map (f := eS 1 eB) hi
  have ht := totB_take hi
  have hle := totB_le (L := L) (i := i + 1)
  have hw : IntKind.i64.wrap ((totB (L.take i) : Int) + (L[i].2.length : Int)) = (totB (L.take (i + 1)) : Int) := by rw [wrap_i64 (by omega) (by omega)]; omega
  have hn : ¬ ((totB (L.take (i + 1)) : Int) < 0) := by omega
  simp +contextual -implicitDefEqProofs only [hi, e1, hw, hn, D.size, D.isAg, lM, eS, D.sub, go_sem, ↓reduceIte, Nat.reduceEqDiff, Nat.reduceLeDiff, Nat.reduceLT, iL, iN]
  rw [wrap_i64 (by omega) (by omega)]
  exact ⟨i + 1, by omega, by omega, Ent.to [] (by simp only [go_sem]; rfl) rfl (by simp) (by rfl) (by simp only [subEnv, go_sem, ↓reduceIte, Nat.reduceEqDiff] <;> simp)⟩
 ·obtain rfl : i = L.length := by omega
  rw [List.take_length]
  simp +contextual -implicitDefEqProofs only [hi, go_sem, ↓reduceIte, Nat.reduceEqDiff, iL]
  refine callQ_self (ds := [.ls (some true) 1 [], eI (totB L)]) (by rfl) (hc1 (totB L) h0 h1) ?_
  simp +contextual -implicitDefEqProofs only [lM, bU, go_sem, ↓reduceIte, Nat.reduceEqDiff]
  refine vc_onU (α := Nat) [6, 8, 24, 27, 28, 29, 30, 31, 32, 33, 34] (fun i => [(27, .im none (.sc (.int .i64 i))), (6, .tr 24)]) (fun i => [(24, .own (.ls (some false) 1 ((catB (L.take i)).map eB)))]) (fun i => i ≤ L.length) (fun i => L.length - i) 0 (Ent.to [] (by simp only [go_sem]; rfl) rfl (by simp [catB_nil]) (by rfl) (by simp only [subEnv, go_sem, ↓reduceIte, Nat.reduceEqDiff, keep, memN] <;> simp)) (Nat.zero_le _) ?_
  intro i hi0
  by_cases hi : i < L.length
  ·have e1 := at_map (f := eS 1 eB) hi
   have ht := totB_take hi
   have hle := totB_le (L := L) (i := i + 1)
   have hcl := catB_len (L := L.take i)
   simp +contextual -implicitDefEqProofs only [hi, e1, np_B, D.size, D.isAg, lM, eS, D.sub, bE, bU, go_sem, ↓reduceIte, Nat.reduceEqDiff, Nat.reduceLeDiff, Nat.reduceBEq, Nat.reduceLT, iL, iN]
   refine ⟨⟨by omega, by unfold maxEl; omega, sz_B⟩, ?_⟩
   rw [wrap_i64 (by omega) (by omega)]
   refine ⟨i + 1, by omega, by omega, ?_⟩
   refine Ent.trans (Ent.ren _ 33 24 [6] (.ls (some false) 1 ((catB (L.take i)).map eB ++ L[i].2.map eB)) (by generalize List.map eB L[i].2 = m; cases m <;> rfl) (by rfl) (by simp; rfl)) ?_
   exact Ent.to [] (by simp only [go_sem, lC, lN, ↓reduceIte, Nat.reduceBEq]; rfl) rfl (by simp [catB_take hi]) (by rfl) (by simp only [subEnv, go_sem, ↓reduceIte, Nat.reduceEqDiff] <;> simp)
  ·obtain rfl : i = L.length := by omega
   rw [List.take_length]
   simp +contextual -implicitDefEqProofs only [hi, bE, go_sem, ↓reduceIte, Nat.reduceEqDiff, Nat.reduceBEq, iL]
end Go.Ax
namespace Go.Ax
set_option maxRecDepth 20000
set_option maxHeartbeats 4000000
def joinR (n1 : Nat) (A B : Rel) : Rel := fun x y => if x < n1 then (decide (y < n1) && A x y) else (decide (n1 ≤ y) && B (x - n1) (y - n1))
def nnN : Nat → Option Bool
 | 0 => some true
 | _ + 1 => some false
abbrev rw_ (T : List (SL Bool)) (k : Nat) : List Bool := (T.getD k (none, [])).2
abbrev tb_ (A : List (SL (SL Bool))) (k : Nat) : Rel := relOf (A.getD k (none, []))
def jRow (T1 T2 : List (SL Bool)) (k : Nat) : D := .ls (some false) 1 ((rw_ T1 k).map eB ++ (rw_ T2 k).map eB)
def jTab (n1 n : Nat) (A1 A2 : List (SL (SL Bool))) (k : Nat) : D := .ls (some false) 1 (rD n (joinR n1 (tb_ A1 k) (tb_ A2 k)))
def joinMo (g : Int × Int) (n1 n : Nat) (T1 T2 : List (SL Bool)) (A1 A2 : List (SL (SL Bool))) : Mo :=
 (g, (n : Int), (nnN T1.length, tabL T1.length fun k => (some false, rw_ T1 k ++ rw_ T2 k)), (nnN A1.length, tabL A1.length fun k => rTab n (joinR n1 (tb_ A1 k) (tb_ A2 k))))
def joinS (a b : Mo) : Mo × Int :=
 if okMo a = false then (zeroMo, 1) else if okMo b = false then (zeroMo, 1) else
 if (a.1.1 == b.1.1 && a.1.2 == b.1.2) = false then (zeroMo, 2) else if decide (a.2.1 + b.2.1 > 8) = true then (zeroMo, 3) else
 (joinMo a.1 a.2.1.toNat (a.2.1.toNat + b.2.1.toNat) a.2.2.1.2 b.2.2.1.2 a.2.2.2.2 b.2.2.2.2, 0)
theorem join_eq {g : Int × Int} {n1 n : Nat} {T1 T2 : List (SL Bool)} {A1 A2 : List (SL (SL Bool))} : eM (joinMo g n1 n T1 T2 A1 A2) = .ag [.sc (.int .i64 g.1), .sc (.int .i64 g.2), .sc (.int .i64 n), .ls (nnN T1.length) 1 (tabL T1.length (jRow T1 T2)), .ls (nnN A1.length) 1 (tabL A1.length (jTab n1 n A1 A2))] := by
 simp only [eM, joinMo, eI]
 unfold jTab jRow
 simp only [eS, rTab, rD, rRow, tabL_map, List.map_append, eB]
theorem tabL_at0 {α : Type} {g : Nat → α} : tabL 0 g = [] := rfl

def jR1 (n1 : Nat) (A : Rel) (i : Nat) : Rel := fun x y => decide (x < i) && (decide (y < n1) && A x y)
def jR2 (n1 : Nat) (A B : Rel) (i : Nat) : Rel := fun x y => if x < n1 then (decide (y < n1) && A x y) else (decide (x < n1 + i) && (decide (n1 ≤ y) && B (x - n1) (y - n1)))
theorem jR1_zero {n1 : Nat} {A : Rel} : (fun _ _ => false : Rel) = jR1 n1 A 0 := by
 funext x y; simp [jR1]
theorem jR2_zero {n1 : Nat} {A B : Rel} : jR1 n1 A n1 = jR2 n1 A B 0 := by
 funext x y
 unfold jR1 jR2
 by_cases h : x < n1 <;> simp [h]
theorem jR1_z {n1 : Nat} {A : Rel} : jR1 n1 A 0 = fun _ _ => false := jR1_zero.symm
theorem jR2_z {n1 : Nat} {A B : Rel} : jR2 n1 A B 0 = jR1 n1 A n1 := jR2_zero.symm
theorem jR2_full {n1 n2 : Nat} {A B : Rel} : rD (n1 + n2) (jR2 n1 A B n2) = rD (n1 + n2) (joinR n1 A B) := rD_congr fun x y hx hy => by
 unfold jR2 joinR
 simp [hx]
theorem jR1_step {n1 n i : Nat} {A : Rel} (hn : n1 ≤ n) : (rD n (jR1 n1 A i)).set i (.ls (some false) 1 (spl (rRow n (jR1 n1 A i i)) 0 n1 (rRow n1 (A i)))) = rD n (jR1 n1 A (i + 1)) := by
 have h : spl (rRow n (jR1 n1 A i i)) 0 n1 (rRow n1 (A i)) = rRow n fun y => decide (y < n1) && A i y := by
  unfold spl rRow tabL
  apply List.ext_getElem
  ·simp; omega
  ·intro k h1 h2
   by_cases hk : k < n1
   ·simp [hk]
   ·simp [hk, jR1, List.getElem_append]
 rw [h, rD_row]
 refine rD_cast ?_
 funext x y
 by_cases hx : x = i
 ·subst hx; simp [setRow, jR1]
 ·simp only [setRow, jR1, hx, if_false]
  congr 1
  rw [decide_eq_decide]; omega
theorem jR2_step {n1 n2 i : Nat} {A B : Rel} : (rD (n1 + n2) (jR2 n1 A B i)).set (n1 + i) (.ls (some false) 1 (spl (rRow (n1 + n2) (jR2 n1 A B i (n1 + i))) n1 n2 (rRow n2 (B i)))) = rD (n1 + n2) (jR2 n1 A B (i + 1)) := by
 have h : spl (rRow (n1 + n2) (jR2 n1 A B i (n1 + i))) n1 n2 (rRow n2 (B i)) = rRow (n1 + n2) fun y => decide (n1 ≤ y) && B i (y - n1) := by
  unfold spl rRow tabL
  apply List.ext_getElem
  ·simp
  ·intro k h1 h2
   simp only [lM, List.length_range] at h2
   by_cases hk : k < n1
   ·have : ¬ n1 ≤ k := by omega
    have h9 : ¬ n1 + i < n1 := by omega
    simp [hk, jR2, this, h9]
   ·have h3 : n1 ≤ k := by omega
    have h4 : k - n1 < n2 := by omega
    simp [h3, h4]
 rw [h, rD_row]
 refine rD_cast ?_
 funext x y
 by_cases hx : x = n1 + i
 ·have h9 : ¬ n1 + i < n1 := by omega
  subst hx; simp [setRow, jR2, h9]
 ·simp only [setRow, jR2, hx, if_false]
  congr 2
  rw [decide_eq_decide]; omega
theorem ls_cons {T : List (SL Bool)} {n i : Nat} (h : ∀ r ∈ T, r.2.length = n) (h1 : 1 ≤ n) (hi : i < T.length) : ∃ b l, rw_ T i = b :: l ∧ l.length + 1 = n := by
 have : (rw_ T i).length = n := h _ (getD_mem (d := (none, [])) hi)
 cases hc : rw_ T i with
 | nil => rw [hc] at this; simp at this; omega
 | cons b l => rw [hc] at this; exact ⟨b, l, rfl, by simpa using this⟩

def k_joinModels1 : RC := (.seq (.reg false [⟨none, .mv 7 (.c (.sc (.bool false)))⟩]) ((.seq ((.seq (.reg false [⟨none, .mv 8 (.t 0)⟩, ⟨none, .fa 9 2 (.t 2)⟩, ⟨none, .ld 10 false 1 (.t 9)⟩, ⟨none, .bin 11 .lss (.t 8) (.t 10)⟩]) (.cond (.t 11) ((.seq (.reg false [⟨none, .mv 12 (.t 1)⟩, ⟨none, .fa 13 2 (.t 2)⟩, ⟨none, .ld 14 false 1 (.t 13)⟩, ⟨none, .bin 15 .lss (.t 12) (.t 14)⟩, ⟨none, .mv 16 (.t 15)⟩, ⟨some (16, true), .fa 17 4 (.t 2)⟩, ⟨some (16, true), .ld 18 false 1 (.t 17)⟩, ⟨some (16, true), .ld 19 false 1 (.t 3)⟩, ⟨some (16, true), .ia 20 1 (.t 18) (.t 19)⟩, ⟨some (16, true), .ld 21 false 1 (.t 20)⟩, ⟨some (16, true), .mv 22 (.t 0)⟩, ⟨some (16, true), .ia 23 1 (.t 21) (.t 22)⟩, ⟨some (16, true), .ld 24 false 1 (.t 23)⟩, ⟨some (16, true), .mv 25 (.t 1)⟩, ⟨some (16, true), .ia 26 1 (.t 24) (.t 25)⟩, ⟨some (16, true), .ld 27 false 1 (.t 26)⟩, ⟨none, .pick 28 (.t 16) (.t 27) (.c (.sc (.bool false)))⟩, ⟨none, .mv 7 (.t 28)⟩]) (.ret))) (.skip)))) ((.seq (.reg true [⟨none, .mv 29 (.t 1)⟩, ⟨none, .fa 30 2 (.t 2)⟩, ⟨none, .ld 31 false 1 (.t 30)⟩, ⟨none, .bin 32 .geq (.t 29) (.t 31)⟩, ⟨none, .mv 33 (.t 32)⟩, ⟨some (33, true), .fa 34 4 (.t 4)⟩, ⟨some (33, true), .ld 35 false 1 (.t 34)⟩, ⟨some (33, true), .ld 36 false 1 (.t 3)⟩, ⟨some (33, true), .ia 37 1 (.t 35) (.t 36)⟩, ⟨some (33, true), .ld 38 false 1 (.t 37)⟩, ⟨some (33, true), .mv 39 (.t 0)⟩, ⟨some (33, true), .fa 40 2 (.t 2)⟩, ⟨some (33, true), .ld 41 false 1 (.t 40)⟩, ⟨some (33, true), .bin 42 .sub (.t 39) (.t 41)⟩, ⟨some (33, true), .ia 43 1 (.t 38) (.t 42)⟩, ⟨some (33, true), .ld 44 false 1 (.t 43)⟩, ⟨some (33, true), .mv 45 (.t 1)⟩, ⟨some (33, true), .fa 46 2 (.t 2)⟩, ⟨some (33, true), .ld 47 false 1 (.t 46)⟩, ⟨some (33, true), .bin 48 .sub (.t 45) (.t 47)⟩, ⟨some (33, true), .ia 49 1 (.t 44) (.t 48)⟩, ⟨some (33, true), .ld 50 false 1 (.t 49)⟩, ⟨none, .pick 51 (.t 33) (.t 50) (.c (.sc (.bool false)))⟩, ⟨none, .mv 7 (.t 51)⟩]) (.ret))))))
def K_joinModels1 (P : Program) (fno : Nat) : Prop := ∀ (a b : Mo) (n1 n2 k x y : Nat) (ha : MoOk a n1) (hb2 : MoOk b n2) (hx : x < n1 + n2) (hy : y < n1 + n2) (hk1 : k < a.2.2.2.2.length) (hk2 : k < b.2.2.2.2.length), AF P fno [eI x, eI y, .pt (eM a) 0, .pt (eI k) 0, .pt (eM b) 0] (.own (eB (joinR n1 (tb_ a.2.2.2.2 k) (tb_ b.2.2.2.2 k) x y)))
theorem a_joinModels1 {P : Program} (hm : P.follows .mixedOrders = true) {g : Nat} (hr : resF P g = some (52, k_joinModels1, [.t 7])) : K_joinModels1 P g := by
 intro a b n1 n2 k x y ha hb2 hx hy hk1 hk2
 obtain ⟨ga, pa, Ta, Aa⟩ := a
 obtain ⟨gb, pb, Tb, Ab⟩ := b
 obtain rfl : pa = n1 := ha.pts
 obtain rfl : pb = n2 := hb2.pts
 have c1 := at_mapD (f := eS 1 (eS 1 eB)) (d := (none, [])) hk1
 have c2 := at_mapD (f := eS 1 (eS 1 eB)) (d := (none, [])) hk2
 have s1 : Sq n1 _ := ha.asq _ (getD_mem (d := (none, [])) hk1)
 have s2 : Sq n2 _ := hb2.asq _ (getD_mem (d := (none, [])) hk2)
 have n8a := ha.n8
 have n8b := hb2.n8
 simp only at hk1 hk2 c1 c2 s1 s2
 refine af_of_res hr hm rfl fun hb => ?_
 by_cases hx1 : x < n1
 ·by_cases hy1 : y < n1
  ·have b1 := s1.at hx1
   have b2 := s1.at2 hx1 hy1
   have b3 := s1.rows hx1
   have b4 := s1.len
   have hj : joinR n1 (tb_ Aa.2 k) (tb_ Ab.2 k) x y = relOf (Aa.2.getD k (none, [])) x y := by unfold joinR; rw [if_pos hx1, decide_eq_true hy1]; rfl
   simp +contextual -implicitDefEqProofs only [k_joinModels1, c1, b1, b2, b3, b4, hk1, hx1, hy1, hj, lM, eM, eS, eI, eB, D.size, D.sizeL, D.sub, D.isAg, go_sem, ↓reduceIte, Nat.reduceEqDiff, Nat.reduceAdd, Nat.reduceLeDiff, Nat.reduceLT, iL, iN]
  ·have hj : joinR n1 (tb_ Aa.2 k) (tb_ Ab.2 k) x y = false := by simp [joinR, hx1, hy1]
   simp +contextual -implicitDefEqProofs only [k_joinModels1, hx1, hy1, hj, eM, eS, eI, eB, D.size, D.sizeL, D.sub, D.isAg, go_sem, ↓reduceIte, Nat.reduceEqDiff, Nat.reduceAdd, Nat.reduceLeDiff, Nat.reduceLT, iL]
 ·have wx : IntKind.i64.wrap ((x : Int) - (n1 : Int)) = ((x - n1 : Nat) : Int) := by rw [wrap_i64 (by omega) (by omega)]; omega
  have wy : n1 ≤ y → IntKind.i64.wrap ((y : Int) - (n1 : Int)) = ((y - n1 : Nat) : Int) := fun h => by rw [wrap_i64 (by omega) (by omega)]; omega
  by_cases hy1 : n1 ≤ y
  ·have wy := wy hy1
   have hx2 : x - n1 < n2 := by omega
   have hy2 : y - n1 < n2 := by omega
   have hy3 : (n1 : Int) ≤ (y : Int) := by omega
   have b1 := s2.at hx2
   have b2 := s2.at2 hx2 hy2
   have b3 := s2.rows hx2
   have b4 := s2.len
   have hj : joinR n1 (tb_ Aa.2 k) (tb_ Ab.2 k) x y = relOf (Ab.2.getD k (none, [])) (x - n1) (y - n1) := by unfold joinR; rw [if_neg hx1, decide_eq_true hy1]; rfl
   simp +contextual -implicitDefEqProofs only [k_joinModels1, c2, b1, b2, b3, b4, hk2, hx1, hy3, hx2, hy2, wx, wy, hj, lM, Int.toNat_natCast, eM, eS, eI, eB, D.size, D.sizeL, D.sub, D.isAg, go_sem, ↓reduceIte, Nat.reduceEqDiff, Nat.reduceAdd, Nat.reduceLeDiff, Nat.reduceLT, iL, iN]
  ·have hy3 : ¬ (n1 : Int) ≤ (y : Int) := by omega
   have hj : joinR n1 (tb_ Aa.2 k) (tb_ Ab.2 k) x y = false := by simp [joinR, hx1, hy1]
   simp +contextual -implicitDefEqProofs only [k_joinModels1, hx1, hy3, hj, eM, eS, eI, eB, D.size, D.sizeL, D.sub, D.isAg, go_sem, ↓reduceIte, Nat.reduceEqDiff, Nat.reduceAdd, Nat.reduceLeDiff, Nat.reduceLT, iL]

def k_spJoinModels (f1 f2 : Nat) : RC := (.seq (.reg false [⟨none, .box 2 5 (.t 0)⟩, ⟨none, .box 3 5 (.t 1)⟩, ⟨none, .zer 4 5 (.ag [(.sc (.int .i64 0)), (.sc (.int .i64 0)), (.sc (.int .i64 0)), (.ls (some true) 1 []), (.ls (some true) 1 [])])⟩, ⟨none, .mv 5 (.c (.sc (.int .i64 0)))⟩]) ((.seq ((.seq (.reg false [⟨none, .call (some 12) f1 [(.t 2)]⟩, ⟨none, .un 13 .not (.t 12)⟩, ⟨none, .mv 14 (.t 13)⟩, ⟨some (14, false), .call (some 15) f1 [(.t 3)]⟩, ⟨some (14, false), .un 16 .not (.t 15)⟩, ⟨none, .pick 17 (.t 14) (.c (.sc (.bool true))) (.t 16)⟩]) (.cond (.t 17) ((.seq (.reg false [⟨none, .bld 18 (.ag [(.sc (.int .i64 0)), (.sc (.int .i64 0)), (.sc (.int .i64 0)), (.ls (some true) 1 []), (.ls (some true) 1 [])]) []⟩, ⟨none, .st 5 (.t 4) (.t 18)⟩, ⟨none, .mv 5 (.c (.sc (.int .i64 1)))⟩]) (.ret))) (.skip)))) ((.seq ((.seq (.reg false [⟨none, .fa 19 0 (.t 2)⟩, ⟨none, .ld 20 true 2 (.t 19)⟩, ⟨none, .fa 21 0 (.t 3)⟩, ⟨none, .ld 22 true 2 (.t 21)⟩, ⟨none, .ceq 23 true 2 (.t 20) (.t 22)⟩]) (.cond (.t 23) ((.seq (.reg false [⟨none, .bld 24 (.ag [(.sc (.int .i64 0)), (.sc (.int .i64 0)), (.sc (.int .i64 0)), (.ls (some true) 1 []), (.ls (some true) 1 [])]) []⟩, ⟨none, .st 5 (.t 4) (.t 24)⟩, ⟨none, .mv 5 (.c (.sc (.int .i64 2)))⟩]) (.ret))) (.skip)))) ((.seq ((.seq (.reg false [⟨none, .fa 25 2 (.t 2)⟩, ⟨none, .ld 26 false 1 (.t 25)⟩, ⟨none, .fa 27 2 (.t 3)⟩, ⟨none, .ld 28 false 1 (.t 27)⟩, ⟨none, .bin 29 .add (.t 26) (.t 28)⟩, ⟨none, .bin 30 .gtr (.t 29) (.c (.sc (.int .i64 8)))⟩]) (.cond (.t 30) ((.seq (.reg false [⟨none, .bld 31 (.ag [(.sc (.int .i64 0)), (.sc (.int .i64 0)), (.sc (.int .i64 0)), (.ls (some true) 1 []), (.ls (some true) 1 [])]) []⟩, ⟨none, .st 5 (.t 4) (.t 31)⟩, ⟨none, .mv 5 (.c (.sc (.int .i64 3)))⟩]) (.ret))) (.skip)))) ((.seq (.reg false [⟨none, .fa 32 0 (.t 2)⟩, ⟨none, .ld 33 true 2 (.t 32)⟩, ⟨none, .fa 34 2 (.t 2)⟩, ⟨none, .ld 35 false 1 (.t 34)⟩, ⟨none, .fa 36 2 (.t 3)⟩, ⟨none, .ld 37 false 1 (.t 36)⟩, ⟨none, .bin 38 .add (.t 35) (.t 37)⟩, ⟨none, .bld 39 (.ag [(.sc (.int .i64 0)), (.sc (.int .i64 0)), (.sc (.int .i64 0)), (.ls (some true) 1 []), (.ls (some true) 1 [])]) [(0, 2, (.t 33)), (2, 1, (.t 38))]⟩, ⟨none, .zer 6 5 (.ag [(.sc (.int .i64 0)), (.sc (.int .i64 0)), (.sc (.int .i64 0)), (.ls (some true) 1 []), (.ls (some true) 1 [])])⟩, ⟨none, .st 5 (.t 6) (.t 39)⟩]) ((.seq ((.seq (.reg false [⟨none, .mv 7 (.c (.sc (.int .i64 0)))⟩]) (.blk 0 (.loop ((.seq ((.seq (.reg false [⟨none, .mv 40 (.t 7)⟩, ⟨none, .fa 41 3 (.t 2)⟩, ⟨none, .ld 42 false 1 (.t 41)⟩, ⟨none, .len 43 (.t 42)⟩, ⟨none, .bin 44 .lss (.t 40) (.t 43)⟩]) (.cond (.t 44) (.skip) (.exit 0)))) ((.seq (.blk 1 (.regL [⟨none, .fa 47 3 (.t 6)⟩, ⟨none, .ld 48 false 1 (.t 47)⟩, ⟨none, .bs 49 1 (.sc (.bool false)) 0 []⟩, ⟨none, .fa 50 3 (.t 2)⟩, ⟨none, .ld 51 false 1 (.t 50)⟩, ⟨none, .mv 52 (.t 7)⟩, ⟨none, .ia 53 1 (.t 51) (.t 52)⟩, ⟨none, .ld 54 false 1 (.t 53)⟩, ⟨none, .fa 56 3 (.t 3)⟩, ⟨none, .ld 57 false 1 (.t 56)⟩, ⟨none, .mv 58 (.t 7)⟩, ⟨none, .ia 59 1 (.t 57) (.t 58)⟩, ⟨none, .ld 60 false 1 (.t 59)⟩] [([(.ld 48 false 1 (.t 47)), (.ld 57 false 1 (.t 56)), (.ia 59 1 (.t 57) (.t 58)), (.ld 60 false 1 (.t 59))], ⟨none, .app 55 1 1 (.t 49) (.t 54)⟩), ([(.ld 48 false 1 (.t 47)), (.ld 57 false 1 (.t 56)), (.ia 59 1 (.t 57) (.t 58)), (.ld 60 false 1 (.t 59))], ⟨none, .app 61 1 1 (.t 55) (.t 60)⟩), ([(.ld 48 false 1 (.t 47))], ⟨none, .bs 62 1 (.ls (some true) 1 []) 1 [(0, (.t 61))]⟩), ([(.ld 48 false 1 (.t 47))], ⟨none, .app 63 1 24 (.t 48) (.t 62)⟩), ([], ⟨none, .fa 64 3 (.t 6)⟩), ([], ⟨none, .st 1 (.t 64) (.t 63)⟩)])) (.reg false [⟨none, .mv 45 (.t 7)⟩, ⟨none, .bin 46 .add (.t 45) (.c (.sc (.int .i64 1)))⟩, ⟨none, .mv 7 (.t 46)⟩]))))))))) ((.seq ((.seq (.reg false [⟨none, .mv 8 (.c (.sc (.int .i64 0)))⟩]) (.blk 2 (.loop ((.seq ((.seq (.reg false [⟨none, .mv 65 (.t 8)⟩, ⟨none, .fa 66 4 (.t 2)⟩, ⟨none, .ld 67 false 1 (.t 66)⟩, ⟨none, .len 68 (.t 67)⟩, ⟨none, .bin 69 .lss (.t 65) (.t 68)⟩]) (.cond (.t 69) (.skip) (.exit 2)))) ((.seq (.blk 3 ((.seq (.reg false [⟨none, .fa 72 2 (.t 6)⟩, ⟨none, .ld 73 false 1 (.t 72)⟩, ⟨none, .call (some 74) f2 [(.t 73)]⟩, ⟨none, .mv 9 (.t 74)⟩]) ((.seq ((.seq (.reg false [⟨none, .mv 10 (.c (.sc (.int .i64 0)))⟩]) (.blk 4 (.loop ((.seq ((.seq (.reg false [⟨none, .mv 75 (.t 10)⟩, ⟨none, .fa 76 2 (.t 2)⟩, ⟨none, .ld 77 false 1 (.t 76)⟩, ⟨none, .bin 78 .lss (.t 75) (.t 77)⟩]) (.cond (.t 78) (.skip) (.exit 4)))) ((.seq (.blk 5 (.reg true [⟨none, .mv 81 (.t 9)⟩, ⟨none, .mv 82 (.t 10)⟩, ⟨none, .ia 83 1 (.t 81) (.t 82)⟩, ⟨none, .ld 84 false 1 (.t 83)⟩, ⟨none, .fa 85 4 (.t 2)⟩, ⟨none, .ld 86 false 1 (.t 85)⟩, ⟨none, .mv 87 (.t 8)⟩, ⟨none, .ia 88 1 (.t 86) (.t 87)⟩, ⟨none, .ld 89 false 1 (.t 88)⟩, ⟨none, .mv 90 (.t 10)⟩, ⟨none, .ia 91 1 (.t 89) (.t 90)⟩, ⟨none, .ld 92 false 1 (.t 91)⟩, ⟨none, .cpy (some 93) 1 (.t 84) (.t 92)⟩])) (.reg false [⟨none, .mv 79 (.t 10)⟩, ⟨none, .bin 80 .add (.t 79) (.c (.sc (.int .i64 1)))⟩, ⟨none, .mv 10 (.t 80)⟩]))))))))) ((.seq ((.seq (.reg false [⟨none, .mv 11 (.c (.sc (.int .i64 0)))⟩]) (.blk 6 (.loop ((.seq ((.seq (.reg false [⟨none, .mv 94 (.t 11)⟩, ⟨none, .fa 95 2 (.t 3)⟩, ⟨none, .ld 96 false 1 (.t 95)⟩, ⟨none, .bin 97 .lss (.t 94) (.t 96)⟩]) (.cond (.t 97) (.skip) (.exit 6)))) ((.seq (.blk 7 (.reg true [⟨none, .mv 100 (.t 9)⟩, ⟨none, .fa 101 2 (.t 2)⟩, ⟨none, .ld 102 false 1 (.t 101)⟩, ⟨none, .mv 103 (.t 11)⟩, ⟨none, .bin 104 .add (.t 102) (.t 103)⟩, ⟨none, .ia 105 1 (.t 100) (.t 104)⟩, ⟨none, .ld 106 false 1 (.t 105)⟩, ⟨none, .fa 107 2 (.t 2)⟩, ⟨none, .ld 108 false 1 (.t 107)⟩, ⟨none, .slc 109 1 (.t 106) (some (.t 108)) none⟩, ⟨none, .fa 110 4 (.t 3)⟩, ⟨none, .ld 111 false 1 (.t 110)⟩, ⟨none, .mv 112 (.t 8)⟩, ⟨none, .ia 113 1 (.t 111) (.t 112)⟩, ⟨none, .ld 114 false 1 (.t 113)⟩, ⟨none, .mv 115 (.t 11)⟩, ⟨none, .ia 116 1 (.t 114) (.t 115)⟩, ⟨none, .ld 117 false 1 (.t 116)⟩, ⟨none, .cpy (some 118) 1 (.t 109) (.t 117)⟩])) (.reg false [⟨none, .mv 98 (.t 11)⟩, ⟨none, .bin 99 .add (.t 98) (.c (.sc (.int .i64 1)))⟩, ⟨none, .mv 11 (.t 99)⟩]))))))))) (.reg false [⟨none, .fa 119 4 (.t 6)⟩, ⟨none, .ld 120 false 1 (.t 119)⟩, ⟨none, .mv 121 (.t 9)⟩, ⟨none, .bs 122 1 (.ls (some true) 1 []) 1 [(0, (.t 121))]⟩, ⟨none, .app 123 1 24 (.t 120) (.t 122)⟩, ⟨none, .fa 124 4 (.t 6)⟩, ⟨none, .st 1 (.t 124) (.t 123)⟩])))))))) (.reg false [⟨none, .mv 70 (.t 8)⟩, ⟨none, .bin 71 .add (.t 70) (.c (.sc (.int .i64 1)))⟩, ⟨none, .mv 8 (.t 71)⟩]))))))))) ((.seq (.reg false [⟨none, .ld 125 true 5 (.t 6)⟩, ⟨none, .st 5 (.t 4) (.t 125)⟩, ⟨none, .mv 5 (.c (.sc (.int .i64 0)))⟩]) (.ret))))))))))))))))
def K_spJoinModels (P : Program) (fno : Nat) : Prop := ∀ (a b : Mo), AF P fno [eM a, eM b] (.tup ([.own (eM (joinS a b).1), .own (eI (joinS a b).2)]))
theorem a_spJoinModels {P : Program} (hm : P.follows .mixedOrders = true) {g f1 f2 : Nat} (hr : resF P g = some (126, k_spJoinModels f1 f2, [.c 4 5 true, .t 5])) (hc1 : K_l05Ok P f1) (hc2 : K_l05None P f2) : K_spJoinModels P g := by
 intro a b
 obtain ⟨⟨g1, g2⟩, pa, Ta, Aa⟩ := a
 obtain ⟨⟨h1, h2⟩, pb, Tb, Ab⟩ := b
 refine af_of_res hr hm rfl fun hb => ?_
 simp +contextual -implicitDefEqProofs only [k_spJoinModels, D.size, D.sizeL, eM, eS, eI, bE, bne, bN, bU, go_sem, ↓reduceIte, Nat.reduceEqDiff, Nat.reduceAdd, Nat.reduceBEq, Nat.reduceLT]
 refine callQ_self (ds := [.pt (eM ((g1, g2), pa, Ta, Aa)) 0]) (by rfl) (hc1 ((g1, g2), pa, Ta, Aa)) ?_
 cases ho : okMo ((g1, g2), pa, Ta, Aa)
 ·rw [show joinS ((g1, g2), pa, Ta, Aa) ((h1, h2), pb, Tb, Ab) = (zeroMo, 1) by simp [joinS, ho]]
  simp +contextual -implicitDefEqProofs only [zeroMo, at0, D.put, D.cells, D.size, D.sizeL, D.isAg, modeOf, noPtrs, eB, D.sub, bE, bne, bN, bU, Bool.and_false, Bool.or_true, Bool.or_false, go_sem, ↓reduceIte, Nat.reduceEqDiff, Nat.reduceAdd, Nat.reduceLeDiff, Nat.reduceBEq, Nat.reduceLT]
 simp +contextual -implicitDefEqProofs only [eB, bT, go_sem, ↓reduceIte, Nat.reduceEqDiff]
 refine callQ_self (ds := [.pt (eM ((h1, h2), pb, Tb, Ab)) 0]) (by rfl) (hc1 ((h1, h2), pb, Tb, Ab)) ?_
 cases ho2 : okMo ((h1, h2), pb, Tb, Ab)
 ·rw [show joinS ((g1, g2), pa, Ta, Aa) ((h1, h2), pb, Tb, Ab) = (zeroMo, 1) by simp [joinS, ho, ho2]]
  simp +contextual -implicitDefEqProofs only [zeroMo, at0, D.put, D.cells, D.size, D.sizeL, D.isAg, modeOf, noPtrs, eB, D.sub, bE, bne, bN, bU, Bool.and_false, Bool.or_true, Bool.or_false, go_sem, ↓reduceIte, Nat.reduceEqDiff, Nat.reduceAdd, Nat.reduceLeDiff, Nat.reduceBEq, Nat.reduceLT]
 simp +contextual -implicitDefEqProofs only [at0, D.put, D.cells, D.size, D.sizeL, D.isAg, modeOf, noPtrs, eB, D.sub, bE, bne, bT, bN, bU, Bool.and_false, Bool.or_true, Bool.or_false, go_sem, ↓reduceIte, Nat.reduceEqDiff, Nat.reduceAdd, Nat.reduceLeDiff, Nat.reduceBEq, Nat.reduceLT, Nat.reduceSub]
 cases hg : (g1 == h1 && g2 == h2)
 ·rw [show joinS ((g1, g2), pa, Ta, Aa) ((h1, h2), pb, Tb, Ab) = (zeroMo, 2) by simp [joinS, ho, ho2, hg]]
  simp +contextual -implicitDefEqProofs only [zeroMo, bN, go_sem]
 simp only [bA, beq_iff_eq] at hg
 obtain ⟨rfl, rfl⟩ := hg
 obtain ⟨n1, hA⟩ := okMo_ok ho
 obtain ⟨n2, hB⟩ := okMo_ok ho2
 obtain rfl : pa = n1 := hA.pts
 obtain rfl : pb = n2 := hB.pts
 have a8 := hA.n8
 have b8 := hB.n8
 have a1 := hA.n1
 have b1 := hB.n1
 have tl := hA.tl
 have tlb := hB.tl
 have al := hA.al
 have alb := hB.al
 have hG := hA.g
 have tra := hA.tr
 have trb := hB.tr
 have asa := hA.asq
 have asb := hB.asq
 simp only [okG, bA, isIn_iff'] at tl tlb al alb hG tra trb asa asb
 have wn : IntKind.i64.wrap ((n1 : Int) + (n2 : Int)) = ((n1 + n2 : Nat) : Int) := by rw [wrap_i64 (by omega) (by omega)]; omega
 by_cases h8 : ((n1 + n2 : Nat) : Int) > 8
 ·rw [show joinS ((g1, g2), (n1 : Int), Ta, Aa) ((g1, g2), (n2 : Int), Tb, Ab) = (zeroMo, 3) by
   have : (n1 : Int) + (n2 : Int) > 8 := by omega
   simp [joinS, ho, ho2, this]]
  simp +contextual -implicitDefEqProofs only [zeroMo, wn, h8, bT, go_sem]
 have n12 : n1 + n2 ≤ 8 := by omega
 rw [show joinS ((g1, g2), (n1 : Int), Ta, Aa) ((g1, g2), (n2 : Int), Tb, Ab) = (joinMo (g1, g2) n1 (n1 + n2) Ta.2 Tb.2 Aa.2 Ab.2, 0) by
  have : ¬ ((n1 : Int) + (n2 : Int) > 8) := by omega
  simp [joinS, ho, ho2, this]]
 have hS := join_eq (g := (g1, g2)) (n1 := n1) (n := n1 + n2) (T1 := Ta.2) (T2 := Tb.2) (A1 := Aa.2) (A2 := Ab.2)
 simp only [eM, eS, eI] at hS
 simp +contextual -implicitDefEqProofs only [h8, wn, bT, go_sem]
 refine vc_onU (α := Nat) [7, 40, 41, 42, 43, 44, 45, 46, 47, 48, 49, 50, 51, 52, 53, 54, 55, 56, 57, 58, 59, 60, 61, 62, 63, 64] (fun i => [(7, .im none (.sc (.int .i64 i)))]) (fun i => [(6, .ar true (some false) 5 [.ag [.sc (.int .i64 g1), .sc (.int .i64 g2), .sc (.int .i64 (n1 + n2 : Nat)), .ls (nnN i) 1 (tabL i (jRow Ta.2 Tb.2)), .ls (some true) 1 []]]), (4, .ar true (some false) 5 [.ag [.sc (.int .i64 0), .sc (.int .i64 0), .sc (.int .i64 0), .ls (some true) 1 [], .ls (some true) 1 []]]), (3, .ar false (some false) 5 [.ag [.sc (.int .i64 g1), .sc (.int .i64 g2), .sc (.int .i64 n2), .ls Tb.1 1 (Tb.2.map (eS 1 eB)), .ls Ab.1 1 (Ab.2.map (eS 1 (eS 1 eB)))]]), (2, .ar false (some false) 5 [.ag [.sc (.int .i64 g1), .sc (.int .i64 g2), .sc (.int .i64 n1), .ls Ta.1 1 (Ta.2.map (eS 1 eB)), .ls Aa.1 1 (Aa.2.map (eS 1 (eS 1 eB)))]])]) (fun i => i ≤ Ta.2.length) (fun i => Ta.2.length - i) 0 (Ent.to [] (by simp only [go_sem]; rfl) rfl (by simp [nnN, tabL_at0]) (by rfl) (by simp only [subEnv, go_sem, ↓reduceIte, Nat.reduceEqDiff, keep, memN] <;> simp)) (Nat.zero_le _) ?_
 intro i hi0
 by_cases hi : i < Ta.2.length
 ·have hi2 : i < Tb.2.length := by omega
  have e1 := at_mapD (f := eS 1 eB) (d := (none, [])) hi
  have e2 := at_mapD (f := eS 1 eB) (d := (none, [])) hi2
  obtain ⟨c1, l1, q1, q2⟩ := ls_cons tra a1 hi
  obtain ⟨c2, l2, q3, q4⟩ := ls_cons trb b1 hi2
  simp only [eS] at e1 e2
  rw [show (Ta.2.getD i (none, [])).2 = _ from q1] at e1
  rw [show (Tb.2.getD i (none, [])).2 = _ from q3] at e2
  simp +contextual -implicitDefEqProofs only [hi, hi2, e1, e2, at0, np_B, lC, List.length_cons, D.put, D.cells, D.size, D.isAg, modeOf, noPtrs, lM, eB, D.sub, bE, bne, bN, Bool.false_and, bU, Bool.and_false, Bool.or_true, Bool.or_false, go_sem, ↓reduceIte, Nat.reduceEqDiff, Nat.reduceAdd, Nat.reduceLeDiff, Nat.reduceMul, Nat.reduceBEq, Nat.reduceLT, iL, iN]
  refine ⟨⟨by omega, by unfold maxEl; omega, sz_Bc⟩, ⟨by omega, by unfold maxEl; omega, sz_Bc⟩, rfl, by simp; omega, ⟨by rw [tabL_len]; omega, by rw [tabL_len]; unfold maxEl; omega, by simp [D.size]⟩, i + 1, by omega, by omega, ?_⟩
  rw [wrap_i64 (by omega) (by omega)]
  exact Ent.to [] (by simp only [go_sem]; rfl) rfl (by simp [tabL_succ, jRow, nnN, q1, q3, eB]) (by rfl) (by simp only [subEnv, go_sem, ↓reduceIte, Nat.reduceEqDiff] <;> simp)
 ·obtain rfl : i = Ta.2.length := by omega
  simp +contextual -implicitDefEqProofs only [hi, at0, D.isAg, lM, D.sub, go_sem, ↓reduceIte, Nat.reduceEqDiff, Nat.reduceAdd, Nat.reduceLeDiff, Nat.reduceLT, iL]
  refine vc_onU (α := Nat) [8, 9, 10, 11, 65, 66, 67, 68, 69, 70, 71, 72, 73, 74, 75, 76, 77, 78, 79, 80, 81, 82, 83, 84, 85, 86, 87, 88, 89, 90, 91, 92, 94, 95, 96, 97, 98, 99, 100, 101, 102, 103, 104, 105, 106, 107, 108, 109, 110, 111, 112, 113, 114, 115, 116, 117, 119, 120, 121, 122, 123, 124] (fun i => [(8, .im none (.sc (.int .i64 i)))]) (fun i => [(6, .ar true (some false) 5 [.ag [.sc (.int .i64 g1), .sc (.int .i64 g2), .sc (.int .i64 (n1 + n2 : Nat)), .ls (nnN Ta.2.length) 1 (tabL Ta.2.length (jRow Ta.2 Tb.2)), .ls (nnN i) 1 (tabL i (jTab n1 (n1 + n2) Aa.2 Ab.2))]]), (4, .ar true (some false) 5 [.ag [.sc (.int .i64 0), .sc (.int .i64 0), .sc (.int .i64 0), .ls (some true) 1 [], .ls (some true) 1 []]]), (3, .ar false (some false) 5 [.ag [.sc (.int .i64 g1), .sc (.int .i64 g2), .sc (.int .i64 n2), .ls Tb.1 1 (Tb.2.map (eS 1 eB)), .ls Ab.1 1 (Ab.2.map (eS 1 (eS 1 eB)))]]), (2, .ar false (some false) 5 [.ag [.sc (.int .i64 g1), .sc (.int .i64 g2), .sc (.int .i64 n1), .ls Ta.1 1 (Ta.2.map (eS 1 eB)), .ls Aa.1 1 (Aa.2.map (eS 1 (eS 1 eB)))]])]) (fun i => i ≤ Aa.2.length) (fun i => Aa.2.length - i) 0 (Ent.to [] (by simp only [go_sem]; rfl) rfl (by simp [nnN, tabL_at0]) (by rfl) (by simp only [subEnv, go_sem, ↓reduceIte, Nat.reduceEqDiff, keep, memN] <;> simp)) (Nat.zero_le _) ?_
  intro i hi0
  by_cases hi : i < Aa.2.length
  ·have hi2 : i < Ab.2.length := by omega
   have e1 := at_mapD (f := eS 1 (eS 1 eB)) (d := (none, [])) hi
   have e2 := at_mapD (f := eS 1 (eS 1 eB)) (d := (none, [])) hi2
   have s1 : Sq n1 _ := asa _ (getD_mem (d := (none, [])) hi)
   have s2 : Sq n2 _ := asb _ (getD_mem (d := (none, [])) hi2)
   simp only [eS] at e1 e2
   simp +contextual -implicitDefEqProofs only [hi, at0, D.isAg, lM, D.sub, go_sem, ↓reduceIte, Nat.reduceEqDiff, Nat.reduceAdd, Nat.reduceLeDiff, Nat.reduceLT, iL]
   refine callQ_self (ds := [eI ((n1 + n2 : Nat) : Int)]) (by rfl) (hc2 (n1 + n2) (by omega)) ?_
   simp +contextual -implicitDefEqProofs only [rD_len, bne, bN, bU, go_sem, ↓reduceIte, Nat.reduceBEq]
   refine vc_onU (α := Nat) [10, 75, 76, 77, 78, 79, 80, 81, 82, 83, 84, 85, 86, 87, 88, 89, 90, 91, 92] (fun x => [(10, .im none (.sc (.int .i64 x)))]) (fun x => [(74, .ar true (some false) 1 (rD (n1 + n2) (jR1 n1 (tb_ Aa.2 i) x))), (6, .ar true (some false) 5 [.ag [.sc (.int .i64 g1), .sc (.int .i64 g2), .sc (.int .i64 (n1 + n2 : Nat)), .ls (nnN Ta.2.length) 1 (tabL Ta.2.length (jRow Ta.2 Tb.2)), .ls (nnN i) 1 (tabL i (jTab n1 (n1 + n2) Aa.2 Ab.2))]]), (4, .ar true (some false) 5 [.ag [.sc (.int .i64 0), .sc (.int .i64 0), .sc (.int .i64 0), .ls (some true) 1 [], .ls (some true) 1 []]]), (3, .ar false (some false) 5 [.ag [.sc (.int .i64 g1), .sc (.int .i64 g2), .sc (.int .i64 n2), .ls Tb.1 1 (Tb.2.map (eS 1 eB)), .ls Ab.1 1 (Ab.2.map (eS 1 (eS 1 eB)))]]), (2, .ar false (some false) 5 [.ag [.sc (.int .i64 g1), .sc (.int .i64 g2), .sc (.int .i64 n1), .ls Ta.1 1 (Ta.2.map (eS 1 eB)), .ls Aa.1 1 (Aa.2.map (eS 1 (eS 1 eB)))]])]) (fun x => x ≤ n1) (fun x => n1 - x) 0 (Ent.to [] (by simp only [go_sem]; rfl) rfl (by simp [jR1_z]) (by rfl) (by simp only [subEnv, go_sem, ↓reduceIte, Nat.reduceEqDiff, keep, memN] <;> simp)) (Nat.zero_le _) ?_
   intro x hx0
   by_cases hx : x < n1
   ·have hx' : x < n1 + n2 := by omega
    have a1' := rD_at (R := jR1 n1 (tb_ Aa.2 i) x) hx'
    have t3 := s1.at hx
    rw [s1.row_map hx] at t3
    have t5 := s1.len
    have hst := jR1_step (A := tb_ Aa.2 i) (i := x) (n1 := n1) (n := n1 + n2) (by omega)
    have hmin : min (n1 + n2) n1 = n1 := by omega
    simp +contextual -implicitDefEqProofs only [hi, hx, hx', rD_len, rRow_len, e1, a1', t3, t5, inSet, rRow_np, Option.getD_none, hmin, at0, D.put, D.size, D.isAg, lM, D.sub, bE, Bool.or_false, go_sem, ↓reduceIte, Nat.reduceEqDiff, Nat.reduceAdd, Nat.reduceLeDiff, Nat.reduceBEq, Nat.reduceLT, iL, iN]
    rw [wrap_i64 (by omega) (by omega), hst]
    exact ⟨x + 1, by omega, by omega, Ent.to [] (by simp only [go_sem]; rfl) rfl (by simp) (by rfl) (by simp only [subEnv, go_sem, ↓reduceIte, Nat.reduceEqDiff] <;> simp)⟩
   ·obtain rfl : n1 = x := by omega
    simp +contextual -implicitDefEqProofs only [hx, at0, D.isAg, D.sub, go_sem, ↓reduceIte, Nat.reduceEqDiff, Nat.reduceAdd, Nat.reduceLeDiff, Nat.reduceLT, iL]
    refine vc_onU (α := Nat) [11, 94, 95, 96, 97, 98, 99, 100, 101, 102, 103, 104, 105, 106, 107, 108, 109, 110, 111, 112, 113, 114, 115, 116, 117] (fun x => [(11, .im none (.sc (.int .i64 x)))]) (fun x => [(74, .ar true (some false) 1 (rD (n1 + n2) (jR2 n1 (tb_ Aa.2 i) (tb_ Ab.2 i) x))), (6, .ar true (some false) 5 [.ag [.sc (.int .i64 g1), .sc (.int .i64 g2), .sc (.int .i64 (n1 + n2 : Nat)), .ls (nnN Ta.2.length) 1 (tabL Ta.2.length (jRow Ta.2 Tb.2)), .ls (nnN i) 1 (tabL i (jTab n1 (n1 + n2) Aa.2 Ab.2))]]), (4, .ar true (some false) 5 [.ag [.sc (.int .i64 0), .sc (.int .i64 0), .sc (.int .i64 0), .ls (some true) 1 [], .ls (some true) 1 []]]), (3, .ar false (some false) 5 [.ag [.sc (.int .i64 g1), .sc (.int .i64 g2), .sc (.int .i64 n2), .ls Tb.1 1 (Tb.2.map (eS 1 eB)), .ls Ab.1 1 (Ab.2.map (eS 1 (eS 1 eB)))]]), (2, .ar false (some false) 5 [.ag [.sc (.int .i64 g1), .sc (.int .i64 g2), .sc (.int .i64 n1), .ls Ta.1 1 (Ta.2.map (eS 1 eB)), .ls Aa.1 1 (Aa.2.map (eS 1 (eS 1 eB)))]])]) (fun x => x ≤ n2) (fun x => n2 - x) 0 (Ent.to [] (by simp only [go_sem]; rfl) rfl (by simp [jR2_z]) (by rfl) (by simp only [subEnv, go_sem, ↓reduceIte, Nat.reduceEqDiff, keep, memN] <;> simp)) (Nat.zero_le _) ?_
    intro y hy0
    by_cases hy : y < n2
    ·have hy' : n1 + y < n1 + n2 := by omega
     have w1 : IntKind.i64.wrap ((n1 : Int) + (y : Int)) = ((n1 + y : Nat) : Int) := by rw [wrap_i64 (by omega) (by omega)]; omega
     have a1' := rD_at (R := jR2 n1 (tb_ Aa.2 i) (tb_ Ab.2 i) y) hy'
     have t3 := s2.at hy
     rw [s2.row_map hy] at t3
     have t5 := s2.len
     have hst := jR2_step (A := tb_ Aa.2 i) (B := tb_ Ab.2 i) (i := y) (n1 := n1) (n2 := n2)
     have hmin : min (n1 + n2 - n1) n2 = n2 := by omega
     have hle : n1 ≤ n1 + n2 := by omega
     simp +contextual -implicitDefEqProofs only [hi2, hy, hy', w1, rD_len, rRow_len, e2, a1', t3, t5, inSet, rRow_np, Option.getD_some, hmin, at0, Int.toNat_natCast, D.put, D.size, D.isAg, lM, D.sub, Int.le_refl, bE, Bool.or_false, go_sem, ↓reduceIte, Nat.reduceEqDiff, Nat.reduceAdd, Nat.reduceLeDiff, Nat.reduceBEq, Nat.reduceLT, iL, iN]
     rw [wrap_i64 (by omega) (by omega), hst]
     exact ⟨by omega, y + 1, by omega, by omega, Ent.to [] (by simp only [go_sem]; rfl) rfl (by simp) (by rfl) (by simp only [subEnv, go_sem, ↓reduceIte, Nat.reduceEqDiff] <;> simp)⟩
    ·obtain rfl : n2 = y := by omega
     simp +contextual -implicitDefEqProofs only [hy, at0, D.put, D.cells, D.size, D.isAg, modeOf, noPtrs, D.sub, bE, bne, bN, Bool.true_and, Bool.false_and, bU, Bool.or_true, Bool.or_false, go_sem, ↓reduceIte, Nat.reduceEqDiff, Nat.reduceAdd, Nat.reduceLeDiff, Nat.reduceMul, Nat.reduceBEq, Nat.reduceLT, iL]
     refine ⟨rfl, by rw [rD_len], ⟨by rw [tabL_len]; omega, by rw [tabL_len]; unfold maxEl; omega, by simp [D.size]⟩, i + 1, by omega, by omega, ?_⟩
     rw [wrap_i64 (by omega) (by omega)]
     exact Ent.to [] (by simp only [go_sem]; rfl) rfl (by simp [tabL_succ, jTab, nnN, jR2_full]) (by rfl) (by simp only [subEnv, go_sem, ↓reduceIte, Nat.reduceEqDiff] <;> simp)
  ·obtain rfl : i = Aa.2.length := by omega
   simp +contextual -implicitDefEqProofs only [hi, at0, D.put, D.size, D.sizeL, D.isAg, modeOf, noPtrs, lM, D.sub, bE, Bool.true_and, bU, Bool.and_false, Bool.or_false, go_sem, ↓reduceIte, Nat.reduceEqDiff, Nat.reduceAdd, Nat.reduceLeDiff, Nat.reduceBEq, Nat.reduceLT, iL]
   exact D.Le.of_eq hS.symm
end Go.Ax
