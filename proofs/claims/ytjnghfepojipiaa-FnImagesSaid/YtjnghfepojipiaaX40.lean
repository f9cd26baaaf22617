/- Contracts of functions of the seat, proved over the engine. No condition. -/
import Derived.Test.YtjnghfepojipiaaX30
set_option linter.unusedSimpArgs false
set_option linter.unusedVariables false
set_option linter.unnecessarySimpa false
namespace Go.Ax
set_option linter.unusedSimpArgs false
set_option maxRecDepth 20000
set_option maxHeartbeats 4000000
abbrev Rel := Nat → Nat → Bool
def rTab (n : Nat) (R : Rel) : SL (SL Bool) := (some false, tabL n fun x => (some false, tabL n (R x)))
def rRow (n : Nat) (f : Nat → Bool) : List D := tabL n fun y => .sc (.bool (f y))
def rD (n : Nat) (R : Rel) : List D := tabL n fun x => .ls (some false) 1 (rRow n (R x))
theorem rD_eq {n : Nat} {R : Rel} : eS 1 (eS 1 eB) (rTab n R) = .ls (some false) 1 (rD n R) := by
 simp only [eS, rTab, rD, rRow, tabL_map, eB]
theorem rD_len {n : Nat} {R : Rel} : (rD n R).length = n := tabL_len
theorem rRow_len {n : Nat} {f : Nat → Bool} : (rRow n f).length = n := tabL_len
theorem tab_get {α : Type} {n i : Nat} {g : Nat → α} {d : α} (h : i < n) : (tabL n g).getD i d = g i := by simp [tabL, h]
theorem rD_at {n x : Nat} {R : Rel} (h : x < n) : D.at (rD n R) x = .ls (some false) 1 (rRow n (R x)) := tab_get h
theorem rRow_at {n y : Nat} {f : Nat → Bool} (h : y < n) : D.at (rRow n f) y = .sc (.bool (f y)) := tab_get h
theorem tab_congr {α : Type} {n : Nat} {f g : Nat → α} (h : ∀ i, i < n → f i = g i) : tabL n f = tabL n g := List.map_congr_left fun i hi => h i (List.mem_range.1 hi)
theorem rRow_congr {n : Nat} {f g : Nat → Bool} (h : ∀ i, i < n → f i = g i) : rRow n f = rRow n g := tab_congr fun i hi => by rw [h i hi]
theorem rD_congr {n : Nat} {R S : Rel} (h : ∀ x y, x < n → y < n → R x y = S x y) : rD n R = rD n S := tab_congr fun x hx => by rw [rRow_congr fun y hy => h x y hx hy]
theorem tab_set {α : Type} {n i : Nat} {f : Nat → α} {v : α} : (tabL n f).set i v = tabL n fun k => if k = i then v else f k := by
 apply List.ext_getElem
 ·simp [tabL]
 ·intro k h1 h2
  simp [tabL] at h1
  by_cases e : i = k
  ·subst e; simp [tabL]
  ·simp [tabL, e, Ne.symm e]
def setR (R : Rel) (x y : Nat) (v : Bool) : Rel := fun a b => if a = x ∧ b = y then v else R a b
theorem rD_set {n x y : Nat} {R : Rel} {v : Bool} : (rD n R).set x (.ls (some false) 1 ((rRow n (R x)).set y (.sc (.bool v)))) = rD n (setR R x y v) := by
 unfold rD rRow
 rw [tab_set, tab_set]
 refine tab_congr fun a _ => ?_
 by_cases ha : a = x
 ·subst ha
  simp only [if_true, setR]
  congr 1
  refine tab_congr fun b _ => ?_
  by_cases hb : b = y
  ·simp [hb]
  ·simp [hb]
 ·simp [ha, setR]
def setRow (R : Rel) (x : Nat) (f : Nat → Bool) : Rel := fun a b => if a = x then f b else R a b
theorem rD_row {n x : Nat} {R : Rel} {f : Nat → Bool} : (rD n R).set x (.ls (some false) 1 (rRow n f)) = rD n (setRow R x f) := by
 unfold rD rRow
 rw [tab_set]
 refine tab_congr fun a _ => ?_
 by_cases ha : a = x
 ·subst ha; simp [setRow]
 ·simp [ha, setRow]
theorem repl_row {n : Nat} : List.replicate n (D.sc (.bool false)) = rRow n fun _ => false := by
 unfold rRow tabL
 apply List.ext_getElem
 ·simp
 ·intro i h1 h2; simp
structure Sq (n : Nat) (a : SL (SL Bool)) : Prop where
 len : a.2.length = n
 row : ∀ r ∈ a.2, r.2.length = n
def relOf (a : SL (SL Bool)) : Rel := fun x y => (a.2.getD x (none, [])).2.getD y false
theorem Sq.rows {n x : Nat} {a : SL (SL Bool)} (h : Sq n a) (hx : x < n) : (a.2.getD x (none, [])).2.length = n := by
 have hx' : x < a.2.length := by rw [h.len]; exact hx
 rw [show a.2.getD x (none, []) = a.2[x] by simp [hx']]
 exact h.row _ (List.getElem_mem hx')
theorem rTab_sq {n : Nat} {R : Rel} : Sq n (rTab n R) := ⟨tabL_len, fun r hr => by
 obtain ⟨x, _, rfl⟩ := List.mem_map.1 hr
 exact tabL_len⟩
theorem relOf_tab {n x y : Nat} {R : Rel} (hx : x < n) (hy : y < n) : relOf (rTab n R) x y = R x y := by
 unfold relOf rTab
 rw [tab_get hx, tab_get hy]
theorem Sq.at {n x : Nat} {a : SL (SL Bool)} (h : Sq n a) (hx : x < n) : D.at (a.2.map (eS 1 eB)) x = .ls (a.2.getD x (none, [])).1 1 ((a.2.getD x (none, [])).2.map eB) := by
 have hx' : x < a.2.length := by rw [h.len]; exact hx
 rw [at_map hx']
 simp [eS, hx']
theorem Sq.at2 {n x y : Nat} {a : SL (SL Bool)} (h : Sq n a) (hx : x < n) (hy : y < n) : D.at ((a.2.getD x (none, [])).2.map eB) y = .sc (.bool (relOf a x y)) := by
 have hy' : y < (a.2.getD x (none, [])).2.length := by rw [h.rows hx]; exact hy
 rw [at_map hy']
 show D.sc (.bool _) = _
 unfold relOf
 congr 2
 simp only [List.getD_eq_getElem?_getD] at hy' ⊢
 rw [List.getElem?_eq_getElem hy']
 rfl
def dotU (A B : Rel) (z x y : Nat) : Bool := (List.range z).any fun k => A x k && B k y
def dotR (n : Nat) (A B : Rel) : Rel := dotU A B n
theorem dotU_succ {A B : Rel} {z x y : Nat} : dotU A B (z + 1) x y = (dotU A B z x y || (A x z && B z y)) := by simp [dotU, List.range_succ]
theorem dotU_congr {A B A' B' : Rel} {n x y : Nat} (h1 : ∀ k, k < n → A x k = A' x k) (h2 : ∀ k, k < n → B k y = B' k y) : dotU A B n x y = dotU A' B' n x y := by
 induction n with
 | zero => rfl
 | succ n ih => rw [dotU_succ, dotU_succ, ih (fun k hk => h1 k (by omega)) (fun k hk => h2 k (by omega)), h1 n (by omega), h2 n (by omega)]

def warR (A : Rel) : Nat → Rel
 | 0 => fun x y => A x y || x == y
 | k + 1 => fun x y => warR A k x y || (warR A k x k && warR A k k y)
def starR (n : Nat) (A : Rel) : Rel := warR A n
theorem warR_col {A : Rel} {k x : Nat} : warR A (k + 1) x k = warR A k x k := by cases h : warR A k x k <;> simp [warR, h]
theorem warR_row {A : Rel} {k y : Nat} : warR A (k + 1) k y = warR A k k y := by cases h : warR A k k y <;> simp [warR, h]

def k_l05None : RC := (.seq (.reg false [⟨none, .mv 2 (.c (.ls (some true) 1 []))⟩]) ((.seq (.reg false [⟨none, .bs 5 1 (.ls (some true) 1 []) 0 []⟩, ⟨none, .mv 3 (.t 5)⟩]) ((.seq ((.seq (.reg false [⟨none, .mv 4 (.c (.sc (.int .i64 0)))⟩]) (.blk 0 (.loop ((.seq ((.seq (.reg false [⟨none, .mv 6 (.t 4)⟩, ⟨none, .mv 7 (.t 0)⟩, ⟨none, .bin 8 .lss (.t 6) (.t 7)⟩]) (.cond (.t 8) (.skip) (.exit 0)))) ((.seq (.blk 1 (.reg false [⟨none, .mv 11 (.t 3)⟩, ⟨none, .mv 12 (.t 0)⟩, ⟨none, .mk 13 1 1 (.sc (.bool false)) (.t 12) (.t 12)⟩, ⟨none, .bs 14 1 (.ls (some true) 1 []) 1 [(0, (.t 13))]⟩, ⟨none, .app 15 1 24 (.t 11) (.t 14)⟩, ⟨none, .mv 3 (.t 15)⟩])) (.reg false [⟨none, .mv 9 (.t 4)⟩, ⟨none, .bin 10 .add (.t 9) (.c (.sc (.int .i64 1)))⟩, ⟨none, .mv 4 (.t 10)⟩]))))))))) ((.seq (.reg false [⟨none, .mv 16 (.t 3)⟩, ⟨none, .mv 2 (.t 16)⟩]) (.ret))))))))
def K_l05None (P : Program) (fno : Nat) : Prop := ∀ (n : Nat) (hn : n ≤ 1000), AF P fno [eI n] (.arr 1 (rD n fun _ _ => false))
theorem a_l05None {P : Program} (hm : P.follows .mixedOrders = true) {g : Nat} (hr : resF P g = some (17, k_l05None, [.t 2])) : K_l05None P g := by
 intro n hn
 refine af_of_res hr hm rfl fun hb => ?_
 simp +contextual -implicitDefEqProofs only [k_l05None, go_sem, eI, ↓reduceIte, Nat.reduceLT]
 refine vc_onU (α := Nat) [3, 4, 5, 6, 7, 8, 9, 10, 11, 12, 13, 14, 15] (fun i => [(4, .im none (.sc (.int .i64 i))), (3, .sm 5 0 i)]) (fun i => [(5, .ar true (some false) 1 (tabL i fun _ => .ls (some false) 1 (rRow n fun _ => false)))]) (fun i => i ≤ n) (fun i => n - i) 0 (Ent.to [] (by simp only [go_sem]; rfl) rfl (by simp [tabL_zero]) (by rfl) (by simp only [subEnv, go_sem, ↓reduceIte, Nat.reduceEqDiff, keep, memN] <;> simp)) (Nat.zero_le _) ?_
 intro i hi0
 by_cases hi : i < n
 ·simp +contextual -implicitDefEqProofs only [hi, tabL_len, go_sem, ↓reduceIte, Nat.reduceEqDiff, Nat.reduceLeDiff, Nat.reduceMul, Nat.reduceBEq, Nat.reduceBneDiff, Nat.reduceLT, Int.ofNat_lt, Int.natCast_nonneg]
  refine ⟨⟨by omega, by omega, by omega⟩, rfl, by simp, ⟨by omega, by unfold maxEl; omega, by simp [D.size]⟩, i + 1, by omega, by omega, ?_⟩
  rw [wrap_i64 (by omega) (by omega)]
  exact Ent.to [] (by simp only [go_sem]; rfl) rfl (by simp [tabL_succ, repl_row]) (by rfl) (by simp only [subEnv, go_sem, ↓reduceIte, Nat.reduceEqDiff] <;> simp)
 ·obtain rfl : i = n := by omega
  simp +contextual -implicitDefEqProofs only [hi, rD_len, go_sem, ↓reduceIte, Nat.reduceEqDiff, Int.ofNat_lt]
  rfl
def dotF1 (n : Nat) (A B : Rel) (i : Nat) : Rel := fun a b => decide (a < i) && dotR n A B a b
def dotF2 (n : Nat) (A B : Rel) (i z : Nat) : Rel := fun a b => if a = i then dotU A B z i b else dotF1 n A B i a b
def dotF3 (n : Nat) (A B : Rel) (i z y : Nat) : Rel := fun a b => if a = i ∧ b < y then dotU A B (z + 1) i b else dotF2 n A B i z a b
theorem dotF2_zero {n : Nat} {A B : Rel} {i : Nat} : dotF2 n A B i 0 = dotF1 n A B i := by
 funext a b; unfold dotF2 dotF1
 split
 ·next h => subst h; simp [dotU]
 ·rfl
theorem dotF2_full {n : Nat} {A B : Rel} {i : Nat} : dotF2 n A B i n = dotF1 n A B (i + 1) := by
 funext a b; unfold dotF2 dotF1
 split
 ·next h => subst h; simp [dotR]
 ·next h => rw [show decide (a < i + 1) = decide (a < i) by rw [decide_eq_decide]; omega]
theorem dotF3_zero {n : Nat} {A B : Rel} {i z : Nat} : dotF3 n A B i z 0 = dotF2 n A B i z := by
 funext a b; simp [dotF3]
theorem dotF3_step {n : Nat} {A B : Rel} {i z y : Nat} (h : A i z = true) : setR (dotF3 n A B i z y) i y (dotU A B z i y || B z y) = dotF3 n A B i z (y + 1) := by
 funext a b; unfold setR dotF3
 by_cases ha : a = i
 ·subst ha
  by_cases hb : b = y
  ·subst hb; simp [dotU_succ, h]
  ·by_cases hb2 : b < y
   ·simp [hb, hb2, show b < y + 1 by omega]
   ·simp [hb, hb2, show ¬ b < y + 1 by omega]
 ·simp [ha]
theorem dotF3_at {n : Nat} {A B : Rel} {i z y : Nat} : dotF3 n A B i z y i y = dotU A B z i y := by simp [dotF3, dotF2]
theorem dotF3_full {n : Nat} {A B : Rel} {i z : Nat} (h : A i z = true) : rD n (dotF3 n A B i z n) = rD n (dotF2 n A B i (z + 1)) := rD_congr fun a b _ hb => by
 unfold dotF3 dotF2
 by_cases ha : a = i <;> simp [ha, hb]
theorem dotF2_skip {n : Nat} {A B : Rel} {i z : Nat} (h : A i z = false) : dotF2 n A B i (z + 1) = dotF2 n A B i z := by
 funext a b; unfold dotF2; simp [dotU_succ, h]
theorem dotF1_zero {n : Nat} {A B : Rel} : dotF1 n A B 0 = fun _ _ => false := by funext a b; simp [dotF1]
theorem dotF1_full {n : Nat} {A B : Rel} : rD n (dotF1 n A B n) = rD n (dotR n A B) := rD_congr fun a b ha _ => by simp [dotF1, ha]

def k_l05Dot (f1 : Nat) : RC := (.seq (.reg false [⟨none, .mv 4 (.c (.ls (some true) 1 []))⟩]) ((.seq (.reg false [⟨none, .mv 9 (.t 0)⟩, ⟨none, .len 10 (.t 9)⟩, ⟨none, .call (some 11) f1 [(.t 10)]⟩, ⟨none, .mv 5 (.t 11)⟩]) ((.seq ((.seq (.reg false [⟨none, .mv 6 (.c (.sc (.int .i64 0)))⟩]) (.blk 0 (.loop ((.seq ((.seq (.reg false [⟨none, .mv 12 (.t 6)⟩, ⟨none, .mv 13 (.t 0)⟩, ⟨none, .len 14 (.t 13)⟩, ⟨none, .bin 15 .lss (.t 12) (.t 14)⟩]) (.cond (.t 15) (.skip) (.exit 0)))) ((.seq (.blk 1 ((.seq (.reg false [⟨none, .mv 7 (.c (.sc (.int .i64 0)))⟩]) (.blk 2 (.loop ((.seq ((.seq (.reg false [⟨none, .mv 18 (.t 7)⟩, ⟨none, .mv 19 (.t 0)⟩, ⟨none, .len 20 (.t 19)⟩, ⟨none, .bin 21 .lss (.t 18) (.t 20)⟩]) (.cond (.t 21) (.skip) (.exit 2)))) ((.seq (.blk 3 ((.seq (.reg false [⟨none, .mv 8 (.c (.sc (.int .i64 0)))⟩]) (.blk 4 (.loop ((.seq ((.seq (.reg false [⟨none, .mv 24 (.t 0)⟩, ⟨none, .mv 25 (.t 6)⟩, ⟨none, .ia 26 1 (.t 24) (.t 25)⟩, ⟨none, .ld 27 false 1 (.t 26)⟩, ⟨none, .mv 28 (.t 7)⟩, ⟨none, .ia 29 1 (.t 27) (.t 28)⟩, ⟨none, .ld 30 false 1 (.t 29)⟩, ⟨none, .mv 31 (.t 30)⟩, ⟨some (31, true), .mv 32 (.t 8)⟩, ⟨some (31, true), .mv 33 (.t 0)⟩, ⟨some (31, true), .len 34 (.t 33)⟩, ⟨some (31, true), .bin 35 .lss (.t 32) (.t 34)⟩, ⟨none, .pick 36 (.t 31) (.t 35) (.c (.sc (.bool false)))⟩]) (.cond (.t 36) (.skip) (.exit 4)))) ((.seq (.blk 5 (.reg true [⟨none, .mv 39 (.t 5)⟩, ⟨none, .mv 40 (.t 6)⟩, ⟨none, .ia 41 1 (.t 39) (.t 40)⟩, ⟨none, .ld 42 false 1 (.t 41)⟩, ⟨none, .mv 43 (.t 8)⟩, ⟨none, .mv 44 (.t 5)⟩, ⟨none, .mv 45 (.t 6)⟩, ⟨none, .ia 46 1 (.t 44) (.t 45)⟩, ⟨none, .ld 47 false 1 (.t 46)⟩, ⟨none, .mv 48 (.t 8)⟩, ⟨none, .ia 49 1 (.t 47) (.t 48)⟩, ⟨none, .ld 50 false 1 (.t 49)⟩, ⟨none, .mv 51 (.t 50)⟩, ⟨some (51, false), .mv 52 (.t 1)⟩, ⟨some (51, false), .mv 53 (.t 7)⟩, ⟨some (51, false), .ia 54 1 (.t 52) (.t 53)⟩, ⟨some (51, false), .ld 55 false 1 (.t 54)⟩, ⟨some (51, false), .mv 56 (.t 8)⟩, ⟨some (51, false), .ia 57 1 (.t 55) (.t 56)⟩, ⟨some (51, false), .ld 58 false 1 (.t 57)⟩, ⟨none, .pick 59 (.t 51) (.c (.sc (.bool true))) (.t 58)⟩, ⟨none, .ia 60 1 (.t 42) (.t 43)⟩, ⟨none, .st 1 (.t 60) (.t 59)⟩])) (.reg false [⟨none, .mv 37 (.t 8)⟩, ⟨none, .bin 38 .add (.t 37) (.c (.sc (.int .i64 1)))⟩, ⟨none, .mv 8 (.t 38)⟩])))))))))) (.reg false [⟨none, .mv 22 (.t 7)⟩, ⟨none, .bin 23 .add (.t 22) (.c (.sc (.int .i64 1)))⟩, ⟨none, .mv 7 (.t 23)⟩])))))))))) (.reg false [⟨none, .mv 16 (.t 6)⟩, ⟨none, .bin 17 .add (.t 16) (.c (.sc (.int .i64 1)))⟩, ⟨none, .mv 6 (.t 17)⟩]))))))))) ((.seq (.reg false [⟨none, .mv 61 (.t 5)⟩, ⟨none, .mv 4 (.t 61)⟩]) (.ret))))))))
def K_l05Dot (P : Program) (fno : Nat) : Prop := ∀ (n : Nat) (a b : SL (SL Bool)) (hn : n ≤ 1000) (ha : Sq n a) (hb2 : Sq n b), AF P fno [eS 1 (eS 1 eB) a, eS 1 (eS 1 eB) b] (.arr 1 (rD n (dotR n (relOf a) (relOf b))))
theorem a_l05Dot {P : Program} (hm : P.follows .mixedOrders = true) {g f1 : Nat} (hr : resF P g = some (62, k_l05Dot f1, [.t 4])) (hc1 : K_l05None P f1) : K_l05Dot P g := by
 intro n a b hn ha hb2
 refine af_of_res hr hm rfl fun hb => ?_
 have la := ha.len
 have lb := hb2.len
 simp +contextual -implicitDefEqProofs only [k_l05Dot, eS, la, go_sem, ↓reduceIte, Nat.reduceEqDiff, Nat.reduceAdd, List.length_map]
 refine callQ_self (ds := [eI n]) (by rfl) (hc1 n hn) ?_
 simp +contextual -implicitDefEqProofs only [rD_len, go_sem, ↓reduceIte]
 refine vc_onU (α := Nat) [6, 7, 8, 12, 13, 14, 15, 16, 17, 18, 19, 20, 21, 22, 23, 24, 25, 26, 27, 28, 29, 30, 31, 32, 33, 34, 35, 36, 37, 38, 39, 40, 41, 42, 43, 44, 45, 46, 47, 48, 49, 50, 51, 52, 53, 54, 55, 56, 57, 58, 59, 60] (fun i => [(6, .im none (.sc (.int .i64 i)))]) (fun i => [(11, .ar true (some false) 1 (rD n (dotF1 n (relOf a) (relOf b) i)))]) (fun i => i ≤ n) (fun i => n - i) 0 (Ent.to [] (by simp only [go_sem]; rfl) rfl (by simp [dotF1_zero]) (by rfl) (by simp only [subEnv, go_sem, ↓reduceIte, Nat.reduceEqDiff, keep, memN] <;> simp)) (Nat.zero_le _) ?_
 intro i hi0
 by_cases hi : i < n
 ·have ai := ha.at hi
  simp +contextual -implicitDefEqProofs only [hi, la, go_sem, ↓reduceIte, Nat.reduceEqDiff, Int.ofNat_lt, List.length_map]
  refine vc_onU (α := Nat) [7, 8, 18, 19, 20, 21, 22, 23, 24, 25, 26, 27, 28, 29, 30, 31, 32, 33, 34, 35, 36, 37, 38, 39, 40, 41, 42, 43, 44, 45, 46, 47, 48, 49, 50, 51, 52, 53, 54, 55, 56, 57, 58, 59, 60] (fun z => [(7, .im none (.sc (.int .i64 z)))]) (fun z => [(11, .ar true (some false) 1 (rD n (dotF2 n (relOf a) (relOf b) i z)))]) (fun z => z ≤ n) (fun z => n - z) 0 (Ent.to [] (by simp only [go_sem]; rfl) rfl (by simp [dotF2_zero]) (by rfl) (by simp only [subEnv, go_sem, ↓reduceIte, Nat.reduceEqDiff, keep, memN] <;> simp)) (Nat.zero_le _) ?_
  intro z hz0
  by_cases hz : z < n
  ·have az := ha.at2 hi hz
   have ri := ha.rows hi
   simp +contextual -implicitDefEqProofs only [hz, la, go_sem, ↓reduceIte, Nat.reduceEqDiff, Int.ofNat_lt, List.length_map]
   refine vc_onU (α := Nat) [8, 24, 25, 26, 27, 28, 29, 30, 31, 32, 33, 34, 35, 36, 37, 38, 39, 40, 41, 42, 43, 44, 45, 46, 47, 48, 49, 50, 51, 52, 53, 54, 55, 56, 57, 58, 59, 60] (fun y => [(8, .im none (.sc (.int .i64 y)))]) (fun y => [(11, .ar true (some false) 1 (rD n (dotF3 n (relOf a) (relOf b) i z y)))]) (fun y => y ≤ n ∧ (y = 0 ∨ relOf a i z = true)) (fun y => n - y) 0 (Ent.to [] (by simp only [go_sem]; rfl) rfl (by simp [dotF3_zero]) (by rfl) (by simp only [subEnv, go_sem, ↓reduceIte, Nat.reduceEqDiff, keep, memN] <;> simp)) ⟨Nat.zero_le _, .inl rfl⟩ ?_
   rintro y ⟨hy0, hy1⟩
   cases hc : relOf a i z
   ·obtain rfl : y = 0 := hy1.resolve_right (by rw [hc]; exact Bool.false_ne_true)
    simp +contextual -implicitDefEqProofs only [ai, az, hc, hi, hz, la, ri, D.size, D.sub, go_sem, ↓reduceIte, Nat.reduceEqDiff, Nat.reduceLeDiff, Nat.reduceLT, Int.ofNat_lt, List.length_map, Int.natCast_nonneg]
    rw [wrap_i64 (by omega) (by omega)]
    exact ⟨z + 1, by omega, by omega, Ent.to [] (by simp only [go_sem]; rfl) rfl (by simp [dotF3_zero, dotF2_skip hc]) (by rfl) (by simp only [subEnv, go_sem, ↓reduceIte, Nat.reduceEqDiff] <;> simp)⟩
   have az' := az
   rw [hc] at az'
   by_cases hy : y < n
   ·have bz := hb2.at hz
    have bzy := hb2.at2 hz hy
    have rz := hb2.rows hz
    have e1 := rD_at (R := dotF3 n (relOf a) (relOf b) i z y) hi
    have e2 := rRow_at (f := dotF3 n (relOf a) (relOf b) i z y i) hy
    rw [dotF3_at] at e2
    have hst := dotF3_step (n := n) (A := relOf a) (B := relOf b) (y := y) hc
    cases hv : dotU (relOf a) (relOf b) z i y
    all_goals
     rw [hv] at e2 hst
     simp only [Bool.false_or, Bool.true_or] at hst
     simp +contextual -implicitDefEqProofs only [ai, az', bz, bzy, e1, e2, hi, hz, hy, la, lb, ri, rz, rD_len, rRow_len, D.size, D.sub, D.put, inSet, rD_set, go_sem, ↓reduceIte, Nat.reduceEqDiff, Nat.reduceLeDiff, Nat.reduceBEq, Nat.reduceLT, Int.ofNat_lt, List.length_map, Int.natCast_nonneg]
     rw [wrap_i64 (by omega) (by omega), hst]
     exact ⟨y + 1, by omega, by omega, Ent.to [] (by simp only [go_sem]; rfl) rfl (by simp) (by rfl) (by simp only [subEnv, go_sem, ↓reduceIte, Nat.reduceEqDiff] <;> simp)⟩
   ·obtain rfl : y = n := by omega
    simp +contextual -implicitDefEqProofs only [ai, az', hi, hz, hy, la, ri, D.size, D.sub, go_sem, ↓reduceIte, Nat.reduceEqDiff, Nat.reduceLeDiff, Nat.reduceLT, Int.ofNat_lt, List.length_map, Int.natCast_nonneg]
    rw [wrap_i64 (by omega) (by omega)]
    exact ⟨z + 1, by omega, by omega, Ent.to [] (by simp only [go_sem]; rfl) rfl (by simp [dotF3_full hc]) (by rfl) (by simp only [subEnv, go_sem, ↓reduceIte, Nat.reduceEqDiff] <;> simp)⟩
  ·obtain rfl : z = n := by omega
   simp +contextual -implicitDefEqProofs only [hz, la, go_sem, ↓reduceIte, Nat.reduceEqDiff, Int.ofNat_lt, List.length_map]
   rw [wrap_i64 (by omega) (by omega)]
   exact ⟨i + 1, by omega, by omega, Ent.to [] (by simp only [go_sem]; rfl) rfl (by simp [dotF2_full]) (by rfl) (by simp only [subEnv, go_sem, ↓reduceIte, Nat.reduceEqDiff] <;> simp)⟩
 ·obtain rfl : i = n := by omega
  simp +contextual -implicitDefEqProofs only [hi, la, rD_len, go_sem, ↓reduceIte, Nat.reduceEqDiff, Int.ofNat_lt, List.length_map]
  exact dotF1_full
theorem spl_all {n : Nat} {f : Nat → Bool} {ds : List D} (h : ds.length = n) : spl (rRow n f) 0 n ds = ds := by
 unfold spl
 rw [List.take_of_length_le (l := ds) (by omega), List.drop_eq_nil_of_le (by rw [rRow_len]; omega)]
 simp
theorem Sq.row_map {n x : Nat} {a : SL (SL Bool)} (h : Sq n a) (hx : x < n) : (a.2.getD x (none, [])).2.map eB = rRow n (relOf a x) := by
 have hr := h.rows hx
 have h3 := fun i hi => h.at2 (x := x) (y := i) hx hi
 unfold relOf at h3 ⊢
 generalize (a.2.getD x (none, [])).2 = r at hr h3 ⊢
 apply List.ext_getElem
 ·rw [List.length_map, hr, rRow_len]
 ·intro i h1 h2
  rw [List.length_map, hr] at h1
  have h3 := h3 i h1
  rw [at_map (by omega)] at h3
  rw [List.getElem_map, h3]
  simp [rRow, tabL]
theorem rRow_np {n : Nat} {f : Nat → Bool} : noPtrs (rRow n f) = true := by
 have : ∀ l : List D, (∀ d ∈ l, d.noPtr = true) → noPtrs l = true := by
  intro l
  induction l with
  | nil => intro _; rfl
  | cons d l ih => intro h; simp [noPtrs, h d (by simp), ih fun x hx => h x (by simp [hx])]
 refine this _ fun d hd => ?_
 obtain ⟨y, _, rfl⟩ := List.mem_map.1 hd
 rfl
def stF0 (A : Rel) (i : Nat) : Rel := fun a b => decide (a < i) && (A a b || a == b)
def stF1 (A : Rel) (z i : Nat) : Rel := fun a b => if a < i then warR A (z + 1) a b else warR A z a b
def stF2 (A : Rel) (z i y : Nat) : Rel := fun a b => if a = i ∧ b < y then warR A (z + 1) a b else stF1 A z i a b
theorem stF0_zero {A : Rel} : stF0 A 0 = fun _ _ => false := by funext a b; simp [stF0]
theorem stF0_full {n : Nat} {A : Rel} : rD n (stF0 A n) = rD n (warR A 0) := rD_congr fun a b ha _ => by simp [stF0, ha, warR]
theorem stF0_step {A : Rel} {i : Nat} : setR (setRow (stF0 A i) i (A i)) i i true = stF0 A (i + 1) := by
 funext a b; unfold setR setRow stF0
 by_cases ha : a = i
 ·subst ha
  by_cases hb : b = a
  ·subst hb; simp
  ·simp [hb, Ne.symm hb]
 ·simp [ha, show decide (a < i + 1) = decide (a < i) by rw [decide_eq_decide]; omega]
theorem stF1_zero {A : Rel} {z : Nat} : stF1 A z 0 = warR A z := by funext a b; simp [stF1]
theorem stF1_full {n : Nat} {A : Rel} {z : Nat} : rD n (stF1 A z n) = rD n (warR A (z + 1)) := rD_congr fun a b ha _ => by simp [stF1, ha]
theorem stF2_zero {A : Rel} {z i : Nat} : stF2 A z i 0 = stF1 A z i := by funext a b; simp [stF2]
theorem stF2_full {n : Nat} {A : Rel} {z i : Nat} : rD n (stF2 A z i n) = rD n (stF1 A z (i + 1)) := rD_congr fun a b _ hb => by
 unfold stF2 stF1
 by_cases ha : a = i
 ·subst ha; simp [hb]
 ·by_cases h2 : a < i
  ·simp [ha, h2, show a < i + 1 by omega]
  ·simp [ha, h2, show ¬ a < i + 1 by omega]
theorem stF1_skip {A : Rel} {z i : Nat} (h : warR A z i z = false) : stF1 A z (i + 1) = stF1 A z i := by
 funext a b; unfold stF1
 by_cases ha : a = i
 ·subst ha; simp [warR, h]
 ·by_cases h2 : a < i
  ·simp [h2, show a < i + 1 by omega]
  ·simp [h2, show ¬ a < i + 1 by omega]
theorem stF2_col {A : Rel} {z i y : Nat} : stF2 A z i y i z = warR A z i z := by
 unfold stF2 stF1
 split
 ·exact warR_col
 ·simp
theorem stF2_at {A : Rel} {z i y : Nat} : stF2 A z i y i y = warR A z i y := by simp [stF2, stF1]
theorem stF2_row {A : Rel} {z i y : Nat} : stF2 A z i y z y = warR A z z y := by
 unfold stF2 stF1
 split
 ·exact warR_row
 ·split
  ·exact warR_row
  ·rfl
theorem stF2_step {A : Rel} {z i y : Nat} (h : warR A z i z = true) : setR (stF2 A z i y) i y (warR A z i y || warR A z z y) = stF2 A z i (y + 1) := by
 funext a b; unfold setR stF2
 by_cases ha : a = i
 ·subst ha
  by_cases hb : b = y
  ·subst hb; simp [warR, h]
  ·by_cases hb2 : b < y
   ·simp [hb, hb2, show b < y + 1 by omega]
   ·simp [hb, hb2, show ¬ b < y + 1 by omega]
 ·simp [ha]

def k_l05Star (f1 : Nat) : RC := (.seq (.reg false [⟨none, .mv 2 (.c (.ls (some true) 1 []))⟩]) ((.seq (.reg false [⟨none, .mv 8 (.t 0)⟩, ⟨none, .len 9 (.t 8)⟩, ⟨none, .call (some 10) f1 [(.t 9)]⟩, ⟨none, .mv 3 (.t 10)⟩]) ((.seq ((.seq (.reg false [⟨none, .mv 4 (.c (.sc (.int .i64 0)))⟩]) (.blk 0 (.loop ((.seq ((.seq (.reg false [⟨none, .mv 11 (.t 4)⟩, ⟨none, .mv 12 (.t 0)⟩, ⟨none, .len 13 (.t 12)⟩, ⟨none, .bin 14 .lss (.t 11) (.t 13)⟩]) (.cond (.t 14) (.skip) (.exit 0)))) ((.seq (.blk 1 ((.seq (.reg true [⟨none, .mv 17 (.t 3)⟩, ⟨none, .mv 18 (.t 4)⟩, ⟨none, .ia 19 1 (.t 17) (.t 18)⟩, ⟨none, .ld 20 false 1 (.t 19)⟩, ⟨none, .mv 21 (.t 0)⟩, ⟨none, .mv 22 (.t 4)⟩, ⟨none, .ia 23 1 (.t 21) (.t 22)⟩, ⟨none, .ld 24 false 1 (.t 23)⟩, ⟨none, .cpy (some 25) 1 (.t 20) (.t 24)⟩]) (.reg false [⟨none, .mv 26 (.t 3)⟩, ⟨none, .mv 27 (.t 4)⟩, ⟨none, .ia 28 1 (.t 26) (.t 27)⟩, ⟨none, .ld 29 false 1 (.t 28)⟩, ⟨none, .mv 30 (.t 4)⟩, ⟨none, .ia 31 1 (.t 29) (.t 30)⟩, ⟨none, .st 1 (.t 31) (.c (.sc (.bool true)))⟩])))) (.reg false [⟨none, .mv 15 (.t 4)⟩, ⟨none, .bin 16 .add (.t 15) (.c (.sc (.int .i64 1)))⟩, ⟨none, .mv 4 (.t 16)⟩]))))))))) ((.seq ((.seq (.reg false [⟨none, .mv 5 (.c (.sc (.int .i64 0)))⟩]) (.blk 2 (.loop ((.seq ((.seq (.reg false [⟨none, .mv 32 (.t 5)⟩, ⟨none, .mv 33 (.t 0)⟩, ⟨none, .len 34 (.t 33)⟩, ⟨none, .bin 35 .lss (.t 32) (.t 34)⟩]) (.cond (.t 35) (.skip) (.exit 2)))) ((.seq (.blk 3 ((.seq (.reg false [⟨none, .mv 6 (.c (.sc (.int .i64 0)))⟩]) (.blk 4 (.loop ((.seq ((.seq (.reg false [⟨none, .mv 38 (.t 6)⟩, ⟨none, .mv 39 (.t 0)⟩, ⟨none, .len 40 (.t 39)⟩, ⟨none, .bin 41 .lss (.t 38) (.t 40)⟩]) (.cond (.t 41) (.skip) (.exit 4)))) ((.seq (.blk 5 ((.seq (.reg false [⟨none, .mv 7 (.c (.sc (.int .i64 0)))⟩]) (.blk 6 (.loop ((.seq ((.seq (.reg false [⟨none, .mv 44 (.t 3)⟩, ⟨none, .mv 45 (.t 6)⟩, ⟨none, .ia 46 1 (.t 44) (.t 45)⟩, ⟨none, .ld 47 false 1 (.t 46)⟩, ⟨none, .mv 48 (.t 5)⟩, ⟨none, .ia 49 1 (.t 47) (.t 48)⟩, ⟨none, .ld 50 false 1 (.t 49)⟩, ⟨none, .mv 51 (.t 50)⟩, ⟨some (51, true), .mv 52 (.t 7)⟩, ⟨some (51, true), .mv 53 (.t 0)⟩, ⟨some (51, true), .len 54 (.t 53)⟩, ⟨some (51, true), .bin 55 .lss (.t 52) (.t 54)⟩, ⟨none, .pick 56 (.t 51) (.t 55) (.c (.sc (.bool false)))⟩]) (.cond (.t 56) (.skip) (.exit 6)))) ((.seq (.blk 7 (.reg true [⟨none, .mv 59 (.t 3)⟩, ⟨none, .mv 60 (.t 6)⟩, ⟨none, .ia 61 1 (.t 59) (.t 60)⟩, ⟨none, .ld 62 false 1 (.t 61)⟩, ⟨none, .mv 63 (.t 7)⟩, ⟨none, .mv 64 (.t 3)⟩, ⟨none, .mv 65 (.t 6)⟩, ⟨none, .ia 66 1 (.t 64) (.t 65)⟩, ⟨none, .ld 67 false 1 (.t 66)⟩, ⟨none, .mv 68 (.t 7)⟩, ⟨none, .ia 69 1 (.t 67) (.t 68)⟩, ⟨none, .ld 70 false 1 (.t 69)⟩, ⟨none, .mv 71 (.t 70)⟩, ⟨some (71, false), .mv 72 (.t 3)⟩, ⟨some (71, false), .mv 73 (.t 5)⟩, ⟨some (71, false), .ia 74 1 (.t 72) (.t 73)⟩, ⟨some (71, false), .ld 75 false 1 (.t 74)⟩, ⟨some (71, false), .mv 76 (.t 7)⟩, ⟨some (71, false), .ia 77 1 (.t 75) (.t 76)⟩, ⟨some (71, false), .ld 78 false 1 (.t 77)⟩, ⟨none, .pick 79 (.t 71) (.c (.sc (.bool true))) (.t 78)⟩, ⟨none, .ia 80 1 (.t 62) (.t 63)⟩, ⟨none, .st 1 (.t 80) (.t 79)⟩])) (.reg false [⟨none, .mv 57 (.t 7)⟩, ⟨none, .bin 58 .add (.t 57) (.c (.sc (.int .i64 1)))⟩, ⟨none, .mv 7 (.t 58)⟩])))))))))) (.reg false [⟨none, .mv 42 (.t 6)⟩, ⟨none, .bin 43 .add (.t 42) (.c (.sc (.int .i64 1)))⟩, ⟨none, .mv 6 (.t 43)⟩])))))))))) (.reg false [⟨none, .mv 36 (.t 5)⟩, ⟨none, .bin 37 .add (.t 36) (.c (.sc (.int .i64 1)))⟩, ⟨none, .mv 5 (.t 37)⟩]))))))))) ((.seq (.reg false [⟨none, .mv 81 (.t 3)⟩, ⟨none, .mv 2 (.t 81)⟩]) (.ret))))))))))
def K_l05Star (P : Program) (fno : Nat) : Prop := ∀ (n : Nat) (a : SL (SL Bool)) (hn : n ≤ 1000) (ha : Sq n a), AF P fno [eS 1 (eS 1 eB) a] (.own (eS 1 (eS 1 eB) (rTab n (starR n (relOf a)))))
theorem a_l05Star {P : Program} (hm : P.follows .mixedOrders = true) {g f1 : Nat} (hr : resF P g = some (82, k_l05Star f1, [.t 2])) (hc1 : K_l05None P f1) : K_l05Star P g := by
 intro n a hn ha
 refine af_of_res hr hm rfl fun hb => ?_
 have la := ha.len
 simp +contextual -implicitDefEqProofs only [k_l05Star, eS, la, go_sem, ↓reduceIte, Nat.reduceEqDiff, List.length_map]
 refine callQ_self (ds := [eI n]) (by rfl) (hc1 n hn) ?_
 simp +contextual -implicitDefEqProofs only [rD_len, go_sem, ↓reduceIte]
 refine vc_onU (α := Nat) [4, 11, 12, 13, 14, 15, 16, 17, 18, 19, 20, 21, 22, 23, 24, 26, 27, 28, 29, 30, 31] (fun i => [(4, .im none (.sc (.int .i64 i)))]) (fun i => [(10, .ar true (some false) 1 (rD n (stF0 (relOf a) i)))]) (fun i => i ≤ n) (fun i => n - i) 0 (Ent.to [] (by simp only [go_sem]; rfl) rfl (by simp [stF0_zero]) (by rfl) (by simp only [subEnv, go_sem, ↓reduceIte, Nat.reduceEqDiff, keep, memN] <;> simp)) (Nat.zero_le _) ?_
 intro i hi0
 by_cases hi : i < n
 ·have ai := ha.at hi
  have ri := ha.rows hi
  have e1 := rD_at (R := stF0 (relOf a) i) hi
  rw [ha.row_map hi] at ai
  have e3 := rD_at (R := setRow (stF0 (relOf a) i) i ((relOf a) i)) hi
  simp +contextual -implicitDefEqProofs only [ai, e1, e3, hi, la, rD_len, rRow_len, D.size, D.sub, D.put, inSet, D.isAg, Option.getD_none, Nat.min_self, spl_all rRow_len, rD_row, rD_set, rRow_np, go_sem, ↓reduceIte, Nat.reduceEqDiff, Nat.reduceLeDiff, Nat.reduceBEq, Nat.reduceLT, Int.ofNat_lt, List.length_map, Int.natCast_nonneg]
  rw [wrap_i64 (by omega) (by omega)]
  exact ⟨i + 1, by omega, by omega, Ent.to [] (by simp only [go_sem]; rfl) rfl (by simp [stF0_step]) (by rfl) (by simp only [subEnv, go_sem, ↓reduceIte, Nat.reduceEqDiff] <;> simp)⟩
 ·obtain rfl : i = n := by omega
  simp +contextual -implicitDefEqProofs only [hi, la, go_sem, ↓reduceIte, Nat.reduceEqDiff, Int.ofNat_lt, List.length_map]
  refine vc_onU (α := Nat) [5, 6, 7, 32, 33, 34, 35, 36, 37, 38, 39, 40, 41, 42, 43, 44, 45, 46, 47, 48, 49, 50, 51, 52, 53, 54, 55, 56, 57, 58, 59, 60, 61, 62, 63, 64, 65, 66, 67, 68, 69, 70, 71, 72, 73, 74, 75, 76, 77, 78, 79, 80] (fun z => [(5, .im none (.sc (.int .i64 z)))]) (fun z => [(10, .ar true (some false) 1 (rD i (warR (relOf a) z)))]) (fun z => z ≤ i) (fun z => i - z) 0 (Ent.to [] (by simp only [go_sem]; rfl) rfl (by simp [stF0_full]) (by rfl) (by simp only [subEnv, go_sem, ↓reduceIte, Nat.reduceEqDiff, keep, memN] <;> simp)) (Nat.zero_le _) ?_
  intro z hz0
  by_cases hz : z < i
  ·simp +contextual -implicitDefEqProofs only [hz, la, go_sem, ↓reduceIte, Nat.reduceEqDiff, Int.ofNat_lt, List.length_map]
   refine vc_onU (α := Nat) [6, 7, 38, 39, 40, 41, 42, 43, 44, 45, 46, 47, 48, 49, 50, 51, 52, 53, 54, 55, 56, 57, 58, 59, 60, 61, 62, 63, 64, 65, 66, 67, 68, 69, 70, 71, 72, 73, 74, 75, 76, 77, 78, 79, 80] (fun x => [(6, .im none (.sc (.int .i64 x)))]) (fun x => [(10, .ar true (some false) 1 (rD i (stF1 (relOf a) z x)))]) (fun x => x ≤ i) (fun x => i - x) 0 (Ent.to [] (by simp only [go_sem]; rfl) rfl (by simp [stF1_zero]) (by rfl) (by simp only [subEnv, go_sem, ↓reduceIte, Nat.reduceEqDiff, keep, memN] <;> simp)) (Nat.zero_le _) ?_
   intro x hx0
   by_cases hx : x < i
   ·simp +contextual -implicitDefEqProofs only [hx, la, go_sem, ↓reduceIte, Nat.reduceEqDiff, Int.ofNat_lt, List.length_map]
    refine vc_onU (α := Nat) [7, 44, 45, 46, 47, 48, 49, 50, 51, 52, 53, 54, 55, 56, 57, 58, 59, 60, 61, 62, 63, 64, 65, 66, 67, 68, 69, 70, 71, 72, 73, 74, 75, 76, 77, 78, 79, 80] (fun y => [(7, .im none (.sc (.int .i64 y)))]) (fun y => [(10, .ar true (some false) 1 (rD i (stF2 (relOf a) z x y)))]) (fun y => y ≤ i ∧ (y = 0 ∨ warR (relOf a) z x z = true)) (fun y => i - y) 0 (Ent.to [] (by simp only [go_sem]; rfl) rfl (by simp [stF2_zero]) (by rfl) (by simp only [subEnv, go_sem, ↓reduceIte, Nat.reduceEqDiff, keep, memN] <;> simp)) ⟨Nat.zero_le _, .inl rfl⟩ ?_
    rintro y ⟨hy0, hy1⟩
    have e1 := rD_at (R := stF2 (relOf a) z x y) hx
    have e2 := rRow_at (f := stF2 (relOf a) z x y x) hz
    rw [stF2_col] at e2
    cases hc : warR (relOf a) z x z
    ·obtain rfl : y = 0 := hy1.resolve_right (by rw [hc]; exact Bool.false_ne_true)
     rw [hc] at e2
     simp +contextual -implicitDefEqProofs only [e1, e2, hx, hz, rRow_len, D.sub, go_sem, ↓reduceIte, Nat.reduceEqDiff, Nat.reduceLeDiff, Nat.reduceLT, Int.ofNat_lt, Int.natCast_nonneg]
     rw [wrap_i64 (by omega) (by omega)]
     exact ⟨x + 1, by omega, by omega, Ent.to [] (by simp only [go_sem]; rfl) rfl (by simp [stF2_zero, stF1_skip hc]) (by rfl) (by simp only [subEnv, go_sem, ↓reduceIte, Nat.reduceEqDiff] <;> simp)⟩
    rw [hc] at e2
    by_cases hy : y < i
    ·have e3 := rRow_at (f := stF2 (relOf a) z x y x) hy
     have e4 := rD_at (R := stF2 (relOf a) z x y) hz
     have e5 := rRow_at (f := stF2 (relOf a) z x y z) hy
     have hst := stF2_step (A := (relOf a)) (y := y) hc
     rw [stF2_at] at e3
     rw [stF2_row] at e5
     cases hv : warR (relOf a) z x y
     all_goals
      rw [hv] at e3 hst
      simp only [Bool.false_or, Bool.true_or] at hst
      simp +contextual -implicitDefEqProofs only [e1, e2, e3, e4, e5, hx, hz, hy, la, rD_len, rRow_len, D.size, D.sub, D.put, inSet, rD_set, go_sem, ↓reduceIte, Nat.reduceEqDiff, Nat.reduceLeDiff, Nat.reduceBEq, Nat.reduceLT, Int.ofNat_lt, List.length_map, Int.natCast_nonneg]
      rw [wrap_i64 (by omega) (by omega), hst]
      exact ⟨y + 1, by omega, by omega, Ent.to [] (by simp only [go_sem]; rfl) rfl (by simp) (by rfl) (by simp only [subEnv, go_sem, ↓reduceIte, Nat.reduceEqDiff] <;> simp)⟩
    ·obtain rfl : y = i := by omega
     simp +contextual -implicitDefEqProofs only [e1, e2, hx, hz, hy, la, rRow_len, D.sub, go_sem, ↓reduceIte, Nat.reduceEqDiff, Nat.reduceLeDiff, Nat.reduceLT, Int.ofNat_lt, List.length_map, Int.natCast_nonneg]
     rw [wrap_i64 (by omega) (by omega)]
     exact ⟨x + 1, by omega, by omega, Ent.to [] (by simp only [go_sem]; rfl) rfl (by simp [stF2_full]) (by rfl) (by simp only [subEnv, go_sem, ↓reduceIte, Nat.reduceEqDiff] <;> simp)⟩
   ·obtain rfl : x = i := by omega
    simp +contextual -implicitDefEqProofs only [hx, la, go_sem, ↓reduceIte, Nat.reduceEqDiff, Int.ofNat_lt, List.length_map]
    rw [wrap_i64 (by omega) (by omega)]
    exact ⟨z + 1, by omega, by omega, Ent.to [] (by simp only [go_sem]; rfl) rfl (by simp [stF1_full]) (by rfl) (by simp only [subEnv, go_sem, ↓reduceIte, Nat.reduceEqDiff] <;> simp)⟩
  ·obtain rfl : z = i := by omega
   simp +contextual -implicitDefEqProofs only [hz, la, rD_len, go_sem, ↓reduceIte, Nat.reduceEqDiff, Nat.reduceBEq, Int.ofNat_lt, List.length_map]
   exact D.Le.of_eq rD_eq.symm
theorem dotU_true {A B : Rel} {n z x y : Nat} (hz : z < n) (h1 : A x z = true) (h2 : B z y = true) : dotU A B n x y = true := by
 simp only [dotU, List.any_eq_true, List.mem_range]
 exact ⟨z, hz, by simp [h1, h2]⟩

def k_composed1 : RC := (.seq (.reg false [⟨none, .mv 6 (.c (.sc (.bool false)))⟩]) ((.seq ((.seq (.reg false [⟨none, .ld 8 false 1 (.t 2)⟩, ⟨none, .len 9 (.t 8)⟩, ⟨none, .mv 10 (.c (.sc (.int .i64 0)))⟩]) (.blk 0 (.loop ((.seq (.reg false [⟨none, .bin 11 .lss (.t 10) (.t 9)⟩]) ((.seq (.cond (.t 11) (.skip) (.exit 0)) ((.seq (.blk 1 ((.seq (.reg false [⟨none, .mv 12 (.t 10)⟩, ⟨none, .mv 7 (.t 12)⟩]) ((.seq (.reg false [⟨none, .ld 13 false 1 (.t 3)⟩, ⟨none, .mv 14 (.t 0)⟩, ⟨none, .ia 15 1 (.t 13) (.t 14)⟩, ⟨none, .ld 16 false 1 (.t 15)⟩, ⟨none, .mv 17 (.t 7)⟩, ⟨none, .ia 18 1 (.t 16) (.t 17)⟩, ⟨none, .ld 19 false 1 (.t 18)⟩, ⟨none, .mv 20 (.t 19)⟩, ⟨some (20, true), .ld 21 false 1 (.t 2)⟩, ⟨some (20, true), .mv 22 (.t 7)⟩, ⟨some (20, true), .ia 23 1 (.t 21) (.t 22)⟩, ⟨some (20, true), .ld 24 false 1 (.t 23)⟩, ⟨some (20, true), .mv 25 (.t 1)⟩, ⟨some (20, true), .ia 26 1 (.t 24) (.t 25)⟩, ⟨some (20, true), .ld 27 false 1 (.t 26)⟩, ⟨none, .pick 28 (.t 20) (.t 27) (.c (.sc (.bool false)))⟩]) (.cond (.t 28) ((.seq (.reg false [⟨none, .mv 6 (.c (.sc (.bool true)))⟩]) (.ret))) (.skip))))))) (.reg false [⟨none, .bin 29 .add (.t 10) (.c (.sc (.int .i64 1)))⟩, ⟨none, .mv 10 (.t 29)⟩]))))))))))) ((.seq (.reg false [⟨none, .mv 6 (.c (.sc (.bool false)))⟩]) (.ret))))))
def K_composed1 (P : Program) (fno : Nat) : Prop := ∀ (n : Nat) (a b : SL (SL Bool)) (x y : Nat) (hn : n ≤ 1000) (ha : Sq n a) (hb2 : Sq n b) (hx : x < n) (hy : y < n), AF P fno [eI x, eI y, .pt (eS 1 (eS 1 eB) b) 0, .pt (eS 1 (eS 1 eB) a) 0] (.own (eB (dotR n (relOf a) (relOf b) x y)))
theorem a_composed1 {P : Program} (hm : P.follows .mixedOrders = true) {g : Nat} (hr : resF P g = some (30, k_composed1, [.t 6])) : K_composed1 P g := by
 intro n a b x y hn ha hb2 hx hy
 refine af_of_res hr hm rfl fun hb => ?_
 have la := ha.len
 have lb := hb2.len
 have ax := ha.at hx
 have rx := ha.rows hx
 simp +contextual -implicitDefEqProofs only [k_composed1, eS, lb, go_sem, eI, eB, ↓reduceIte, Nat.reduceEqDiff, Nat.reduceAdd, Nat.reduceLeDiff, List.length_map]
 refine vc_onU (α := Nat) [6, 7, 10, 11, 12, 13, 14, 15, 16, 17, 18, 19, 20, 21, 22, 23, 24, 25, 26, 27, 28, 29] (fun z => [(10, .im none (.sc (.int .i64 z)))]) (fun z => []) (fun z => z ≤ n ∧ dotU (relOf a) (relOf b) z x y = false) (fun z => n - z) 0 (Ent.to [] (by simp only [go_sem]; rfl) rfl (by simp) (by rfl) (by simp only [subEnv, go_sem, ↓reduceIte, Nat.reduceEqDiff, keep, memN] <;> simp)) ⟨Nat.zero_le _, rfl⟩ ?_
 rintro z ⟨hz0, hz1⟩
 by_cases hz : z < n
 ·have az := ha.at2 hx hz
  have bz := hb2.at hz
  have by_ := hb2.at2 hz hy
  have rz := hb2.rows hz
  cases h1 : relOf a x z
  ·rw [h1] at az
   simp +contextual -implicitDefEqProofs only [ax, az, hz, hx, la, rx, D.size, D.sub, go_sem, ↓reduceIte, Nat.reduceEqDiff, Nat.reduceLeDiff, Nat.reduceLT, Int.ofNat_lt, List.length_map, Int.natCast_nonneg]
   rw [wrap_i64 (by omega) (by omega)]
   exact ⟨z + 1, ⟨by omega, by rw [dotU_succ, hz1, h1]; rfl⟩, by omega, Ent.to [] (by simp only [go_sem]; rfl) rfl (by simp) (by rfl) (by simp only [subEnv, go_sem, ↓reduceIte, Nat.reduceEqDiff] <;> simp)⟩
  rw [h1] at az
  cases h2 : relOf b z y
  ·rw [h2] at by_
   simp +contextual -implicitDefEqProofs only [ax, az, bz, by_, hz, hx, hy, la, lb, rx, rz, D.size, D.sub, go_sem, ↓reduceIte, Nat.reduceEqDiff, Nat.reduceLeDiff, Nat.reduceLT, Int.ofNat_lt, List.length_map, Int.natCast_nonneg]
   rw [wrap_i64 (by omega) (by omega)]
   exact ⟨z + 1, ⟨by omega, by rw [dotU_succ, hz1, h1, h2]; rfl⟩, by omega, Ent.to [] (by simp only [go_sem]; rfl) rfl (by simp) (by rfl) (by simp only [subEnv, go_sem, ↓reduceIte, Nat.reduceEqDiff] <;> simp)⟩
  ·rw [h2] at by_
   simp +contextual -implicitDefEqProofs only [ax, az, bz, by_, hz, hx, hy, la, lb, rx, rz, D.size, D.sub, go_sem, ↓reduceIte, Nat.reduceEqDiff, Nat.reduceLeDiff, Nat.reduceLT, Int.ofNat_lt, List.length_map, Int.natCast_nonneg]
   exact D.Le.sc_eq (by unfold dotR; rw [dotU_true hz h1 h2])
 ·obtain rfl : z = n := by omega
  simp +contextual -implicitDefEqProofs only [hz, go_sem, ↓reduceIte, Nat.reduceEqDiff, Int.ofNat_lt]
  exact D.Le.sc_eq (by unfold dotR; rw [hz1])

def k_composed (f1 f2 : Nat) : RC := (.seq (.reg false [⟨none, .box 2 1 (.t 0)⟩, ⟨none, .box 3 1 (.t 1)⟩, ⟨none, .mv 4 (.c (.ls (some true) 1 []))⟩]) ((.seq (.reg false [⟨none, .ld 5 false 1 (.t 2)⟩, ⟨none, .len 6 (.t 5)⟩, ⟨none, .mkf 7 f2 [(.t 3), (.t 2)]⟩, ⟨none, .call (some 8) f1 [(.t 6), (.t 7)]⟩, ⟨none, .mv 4 (.t 8)⟩]) (.ret))))
def K_composed (P : Program) (fno : Nat) : Prop := ∀ (n : Nat) (a b : SL (SL Bool)) (hn : n ≤ 1000) (ha : Sq n a) (hb2 : Sq n b), AF P fno [eS 1 (eS 1 eB) a, eS 1 (eS 1 eB) b] (.own (eS 1 (eS 1 eB) (rTab n (dotR n (relOf a) (relOf b)))))
theorem a_composed {P : Program} (hm : P.follows .mixedOrders = true) {g f1 f2 : Nat} (hr : resF P g = some (9, k_composed f1 f2, [.t 4])) (hc1 : K_tableB P f1) (hc2 : K_composed1 P f2) : K_composed P g := by
 intro n a b hn ha hb2
 refine af_of_res hr hm rfl fun hb => ?_
 have la := ha.len
 simp +contextual -implicitDefEqProofs only [k_composed, eS, D.at, D.sub, la, go_sem, ↓reduceIte, Nat.reduceEqDiff, Nat.reduceAdd, Nat.reduceLeDiff, Nat.reduceBneDiff, Nat.reduceLT, List.length_map]
 refine callQ_self (ds := [eI n, .fn f2 [.pt (eS 1 (eS 1 eB) b) 0, .pt (eS 1 (eS 1 eB) a) 0]]) (by rfl) (hc1 n f2 _ (dotR n (relOf a) (relOf b)) hn (fun x y hx hy => hc2 n a b x y hn ha hb2 hx hy)) ?_
 simp +contextual -implicitDefEqProofs only [eS, rTab, go_sem, ↓reduceIte, Nat.reduceEqDiff, Nat.reduceBEq, Nat.reduceBneDiff]
end Go.Ax
