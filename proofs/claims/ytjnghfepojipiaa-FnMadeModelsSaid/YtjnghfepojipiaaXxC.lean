/- Contracts of functions of the seat, proved over the engine. No condition. -/
import Derived.Test.YtjnghfepojipiaaXxB
import Derived.Test.YtjnghfepojipiaaXxA
set_option linter.unusedSimpArgs false
set_option linter.unusedVariables false
set_option linter.unnecessarySimpa false
namespace Go.Ax
set_option maxRecDepth 20000
set_option maxHeartbeats 4000000
abbrev Rel := Nat → Nat → Bool
def rTab (n : Nat) (R : Rel) : SL (SL Bool) := (some false, tabL n fun x => (some false, tabL n (R x)))
def rRow (n : Nat) (f : Nat → Bool) : List D := tabL n fun y => .sc (.bool (f y))
def rD (n : Nat) (R : Rel) : List D := tabL n fun x => .ls (some false) 1 (rRow n (R x))
theorem rD_eq {n : Nat} {R : Rel} : eS 1 (eS 1 eB) (rTab n R) = .ls (some false) 1 (rD n R) := by
 simp only [eS, rTab, rD, rRow, tabL_map, eB]
theorem rD_len {n : Nat} {R : Rel} : (rD n R).length = n := tabL_len
theorem rRow_len {n : Nat} {f : Nat → Bool} : (rRow n f).length = n := tabL_len
theorem tab_get {α : Type} {n i : Nat} {g : Nat → α} {d : α} (h : i < n) : (tabL n g).getD i d = g i := by simp [tabL, h]
theorem rD_at {n x : Nat} {R : Rel} (h : x < n) : D.at (rD n R) x = .ls (some false) 1 (rRow n (R x)) := tab_get h
theorem rRow_at {n y : Nat} {f : Nat → Bool} (h : y < n) : D.at (rRow n f) y = .sc (.bool (f y)) := tab_get h
theorem tab_congr {α : Type} {n : Nat} {f g : Nat → α} (h : ∀ i, i < n → f i = g i) : tabL n f = tabL n g := List.map_congr_left fun i hi => h i (List.mem_range.1 hi)
theorem rRow_congr {n : Nat} {f g : Nat → Bool} (h : ∀ i, i < n → f i = g i) : rRow n f = rRow n g := tab_congr fun i hi => by rw [h i hi]
theorem rD_congr {n : Nat} {R S : Rel} (h : ∀ x y, x < n → y < n → R x y = S x y) : rD n R = rD n S := tab_congr fun x hx => by rw [rRow_congr fun y hy => h x y hx hy]
theorem tab_set {α : Type} {n i : Nat} {f : Nat → α} {v : α} : (tabL n f).set i v = tabL n fun k => if k = i then v else f k := by
 apply List.ext_getElem
 ·simp [tabL]
 ·intro k h1 h2
  simp [tabL] at h1
  by_cases e : i = k
  ·subst e; simp [tabL]
  ·simp [tabL, e, Ne.symm e]
def setR (R : Rel) (x y : Nat) (v : Bool) : Rel := fun a b => if a = x ∧ b = y then v else R a b
theorem rD_set {n x y : Nat} {R : Rel} {v : Bool} : (rD n R).set x (.ls (some false) 1 ((rRow n (R x)).set y (.sc (.bool v)))) = rD n (setR R x y v) := by
 unfold rD rRow
 rw [tab_set, tab_set]
 refine tab_congr fun a _ => ?_
 by_cases ha : a = x
 ·subst ha
  simp only [if_true, setR]
  congr 1
  refine tab_congr fun b _ => ?_
  by_cases hb : b = y
  ·simp [hb]
  ·simp [hb]
 ·simp [ha, setR]
def setRow (R : Rel) (x : Nat) (f : Nat → Bool) : Rel := fun a b => if a = x then f b else R a b
theorem rD_row {n x : Nat} {R : Rel} {f : Nat → Bool} : (rD n R).set x (.ls (some false) 1 (rRow n f)) = rD n (setRow R x f) := by
 unfold rD rRow
 rw [tab_set]
 refine tab_congr fun a _ => ?_
 by_cases ha : a = x
 ·subst ha; simp [setRow]
 ·simp [ha, setRow]
theorem repl_row {n : Nat} : List.replicate n (D.sc (.bool false)) = rRow n fun _ => false := by
 unfold rRow tabL
 apply List.ext_getElem
 ·simp
 ·intro i h1 h2; simp
theorem rD_cast {n : Nat} {R S : Rel} (h : R = S) : rD n R = rD n S := by rw [h]

structure Sq (n : Nat) (a : SL (SL Bool)) : Prop where
 len : a.2.length = n
 row : ∀ r ∈ a.2, r.2.length = n
def relOf (a : SL (SL Bool)) : Rel := fun x y => (a.2.getD x (none, [])).2.getD y false
theorem Sq.rows {n x : Nat} {a : SL (SL Bool)} (h : Sq n a) (hx : x < n) : (a.2.getD x (none, [])).2.length = n := by
 have hx' : x < a.2.length := by rw [h.len]; exact hx
 rw [show a.2.getD x (none, []) = a.2[x] by simp [hx']]
 exact h.row _ (List.getElem_mem hx')
theorem rTab_sq {n : Nat} {R : Rel} : Sq n (rTab n R) := ⟨tabL_len, fun r hr => by
 obtain ⟨x, _, rfl⟩ := List.mem_map.1 hr
 exact tabL_len⟩
theorem relOf_tab {n x y : Nat} {R : Rel} (hx : x < n) (hy : y < n) : relOf (rTab n R) x y = R x y := by
 unfold relOf rTab
 rw [tab_get hx, tab_get hy]
theorem Sq.at {n x : Nat} {a : SL (SL Bool)} (h : Sq n a) (hx : x < n) : D.at (a.2.map (eS 1 eB)) x = .ls (a.2.getD x (none, [])).1 1 ((a.2.getD x (none, [])).2.map eB) := by
 have hx' : x < a.2.length := by rw [h.len]; exact hx
 rw [at_map hx']
 simp [eS, hx']
theorem Sq.at2 {n x y : Nat} {a : SL (SL Bool)} (h : Sq n a) (hx : x < n) (hy : y < n) : D.at ((a.2.getD x (none, [])).2.map eB) y = .sc (.bool (relOf a x y)) := by
 have hy' : y < (a.2.getD x (none, [])).2.length := by rw [h.rows hx]; exact hy
 rw [at_map hy']
 show D.sc (.bool _) = _
 unfold relOf
 congr 2
 simp only [List.getD_eq_getElem?_getD] at hy' ⊢
 rw [List.getElem?_eq_getElem hy']
 rfl
def dotU (A B : Rel) (z x y : Nat) : Bool := (List.range z).any fun k => A x k && B k y
def dotR (n : Nat) (A B : Rel) : Rel := dotU A B n
theorem dotU_succ {A B : Rel} {z x y : Nat} : dotU A B (z + 1) x y = (dotU A B z x y || (A x z && B z y)) := by simp [dotU, List.range_succ]
theorem dotU_congr {A B A' B' : Rel} {n x y : Nat} (h1 : ∀ k, k < n → A x k = A' x k) (h2 : ∀ k, k < n → B k y = B' k y) : dotU A B n x y = dotU A' B' n x y := by
 induction n with
 | zero => rfl
 | succ n ih => rw [dotU_succ, dotU_succ, ih (fun k hk => h1 k (by omega)) (fun k hk => h2 k (by omega)), h1 n (by omega), h2 n (by omega)]

def warR (A : Rel) : Nat → Rel
 | 0 => fun x y => A x y || x == y
 | k + 1 => fun x y => warR A k x y || (warR A k x k && warR A k k y)
def starR (n : Nat) (A : Rel) : Rel := warR A n
theorem warR_refl {A : Rel} : ∀ {k x : Nat}, warR A k x x = true
 | 0, x => by simp [warR]
 | k + 1, x => by simp [warR, warR_refl (k := k)]
def k_l05None : RC := (.seq (.reg false [⟨none, .mv 2 (.c (.ls (some true) 1 []))⟩]) ((.seq (.reg false [⟨none, .bs 5 1 (.ls (some true) 1 []) 0 []⟩, ⟨none, .mv 3 (.t 5)⟩]) ((.seq ((.seq (.reg false [⟨none, .mv 4 (.c (.sc (.int .i64 0)))⟩]) (.blk 0 (.loop ((.seq ((.seq (.reg false [⟨none, .mv 6 (.t 4)⟩, ⟨none, .mv 7 (.t 0)⟩, ⟨none, .bin 8 .lss (.t 6) (.t 7)⟩]) (.cond (.t 8) (.skip) (.exit 0)))) ((.seq (.blk 1 (.reg false [⟨none, .mv 11 (.t 3)⟩, ⟨none, .mv 12 (.t 0)⟩, ⟨none, .mk 13 1 1 (.sc (.bool false)) (.t 12) (.t 12)⟩, ⟨none, .bs 14 1 (.ls (some true) 1 []) 1 [(0, (.t 13))]⟩, ⟨none, .app 15 1 24 (.t 11) (.t 14)⟩, ⟨none, .mv 3 (.t 15)⟩])) (.reg false [⟨none, .mv 9 (.t 4)⟩, ⟨none, .bin 10 .add (.t 9) (.c (.sc (.int .i64 1)))⟩, ⟨none, .mv 4 (.t 10)⟩]))))))))) ((.seq (.reg false [⟨none, .mv 16 (.t 3)⟩, ⟨none, .mv 2 (.t 16)⟩]) (.ret))))))))
def K_l05None (P : Program) (fno : Nat) : Prop := ∀ (n : Nat) (hn : n ≤ 1000), AF P fno [eI n] (.arr 1 (rD n fun _ _ => false))
theorem a_l05None {P : Program} (hm : P.follows .mixedOrders = true) {g : Nat} (hr : resF P g = some (17, k_l05None, [.t 2])) : K_l05None P g := by
 intro n hn
 refine af_of_res hr hm rfl fun hb => ?_
 simp +contextual -implicitDefEqProofs only [k_l05None, go_sem, eI, ↓reduceIte, Nat.reduceLT]
 refine vc_onU (α := Nat) [3, 4, 5, 6, 7, 8, 9, 10, 11, 12, 13, 14, 15] (fun i => [(4, .im none (.sc (.int .i64 i))), (3, .sm 5 0 i)]) (fun i => [(5, .ar true (some false) 1 (tabL i fun _ => .ls (some false) 1 (rRow n fun _ => false)))]) (fun i => i ≤ n) (fun i => n - i) 0 (Ent.to [] (by simp only [go_sem]; rfl) rfl (by simp [tabL_zero]) (by rfl) (by simp only [subEnv, go_sem, ↓reduceIte, Nat.reduceEqDiff, keep, memN] <;> simp)) (Nat.zero_le _) ?_
 intro i hi0
 by_cases hi : i < n
 ·simp +contextual -implicitDefEqProofs only [hi, tabL_len, go_sem, ↓reduceIte, Nat.reduceEqDiff, Nat.reduceLeDiff, Nat.reduceMul, Nat.reduceBEq, Nat.reduceBneDiff, Nat.reduceLT, iL, iN]
  refine ⟨⟨by omega, by omega, by omega⟩, rfl, by simp, ⟨by omega, by unfold maxEl; omega, by simp [D.size]⟩, i + 1, by omega, by omega, ?_⟩
  rw [wrap_i64 (by omega) (by omega)]
  exact Ent.to [] (by simp only [go_sem]; rfl) rfl (by simp [tabL_succ, repl_row]) (by rfl) (by simp only [subEnv, go_sem, ↓reduceIte, Nat.reduceEqDiff] <;> simp)
 ·obtain rfl : i = n := by omega
  simp +contextual -implicitDefEqProofs only [hi, rD_len, go_sem, ↓reduceIte, Nat.reduceEqDiff, iL]
  rfl
theorem Sq.row_map {n x : Nat} {a : SL (SL Bool)} (h : Sq n a) (hx : x < n) : (a.2.getD x (none, [])).2.map eB = rRow n (relOf a x) := by
 have hr := h.rows hx
 have h3 := fun i hi => h.at2 (x := x) (y := i) hx hi
 unfold relOf at h3 ⊢
 generalize (a.2.getD x (none, [])).2 = r at hr h3 ⊢
 apply List.ext_getElem
 ·rw [lM, hr, rRow_len]
 ·intro i h1 h2
  rw [lM, hr] at h1
  have h3 := h3 i h1
  rw [at_map (by omega)] at h3
  rw [List.getElem_map, h3]
  simp [rRow, tabL]
theorem rRow_np {n : Nat} {f : Nat → Bool} : noPtrs (rRow n f) = true := by
 have : ∀ l : List D, (∀ d ∈ l, d.noPtr = true) → noPtrs l = true := by
  intro l
  induction l with
  | nil => intro _; rfl
  | cons d l ih => intro h; simp [noPtrs, h d (by simp), ih fun x hx => h x (by simp [hx])]
 refine this _ fun d hd => ?_
 obtain ⟨y, _, rfl⟩ := List.mem_map.1 hd
 rfl
theorem dotU_true {A B : Rel} {n z x y : Nat} (hz : z < n) (h1 : A x z = true) (h2 : B z y = true) : dotU A B n x y = true := by
 simp only [dotU, List.any_eq_true, List.mem_range]
 exact ⟨z, hz, by simp [h1, h2]⟩

def k_composed1 : RC := (.seq (.reg false [⟨none, .mv 6 (.c (.sc (.bool false)))⟩]) ((.seq ((.seq (.reg false [⟨none, .ld 8 false 1 (.t 2)⟩, ⟨none, .len 9 (.t 8)⟩, ⟨none, .mv 10 (.c (.sc (.int .i64 0)))⟩]) (.blk 0 (.loop ((.seq (.reg false [⟨none, .bin 11 .lss (.t 10) (.t 9)⟩]) ((.seq (.cond (.t 11) (.skip) (.exit 0)) ((.seq (.blk 1 ((.seq (.reg false [⟨none, .mv 12 (.t 10)⟩, ⟨none, .mv 7 (.t 12)⟩]) ((.seq (.reg false [⟨none, .ld 13 false 1 (.t 3)⟩, ⟨none, .mv 14 (.t 0)⟩, ⟨none, .ia 15 1 (.t 13) (.t 14)⟩, ⟨none, .ld 16 false 1 (.t 15)⟩, ⟨none, .mv 17 (.t 7)⟩, ⟨none, .ia 18 1 (.t 16) (.t 17)⟩, ⟨none, .ld 19 false 1 (.t 18)⟩, ⟨none, .mv 20 (.t 19)⟩, ⟨some (20, true), .ld 21 false 1 (.t 2)⟩, ⟨some (20, true), .mv 22 (.t 7)⟩, ⟨some (20, true), .ia 23 1 (.t 21) (.t 22)⟩, ⟨some (20, true), .ld 24 false 1 (.t 23)⟩, ⟨some (20, true), .mv 25 (.t 1)⟩, ⟨some (20, true), .ia 26 1 (.t 24) (.t 25)⟩, ⟨some (20, true), .ld 27 false 1 (.t 26)⟩, ⟨none, .pick 28 (.t 20) (.t 27) (.c (.sc (.bool false)))⟩]) (.cond (.t 28) ((.seq (.reg false [⟨none, .mv 6 (.c (.sc (.bool true)))⟩]) (.ret))) (.skip))))))) (.reg false [⟨none, .bin 29 .add (.t 10) (.c (.sc (.int .i64 1)))⟩, ⟨none, .mv 10 (.t 29)⟩]))))))))))) ((.seq (.reg false [⟨none, .mv 6 (.c (.sc (.bool false)))⟩]) (.ret))))))
def K_composed1 (P : Program) (fno : Nat) : Prop := ∀ (n : Nat) (a b : SL (SL Bool)) (x y : Nat) (hn : n ≤ 1000) (ha : Sq n a) (hb2 : Sq n b) (hx : x < n) (hy : y < n), AF P fno [eI x, eI y, .pt (eS 1 (eS 1 eB) b) 0, .pt (eS 1 (eS 1 eB) a) 0] (.own (eB (dotR n (relOf a) (relOf b) x y)))
theorem a_composed1 {P : Program} (hm : P.follows .mixedOrders = true) {g : Nat} (hr : resF P g = some (30, k_composed1, [.t 6])) : K_composed1 P g := by
 intro n a b x y hn ha hb2 hx hy
 refine af_of_res hr hm rfl fun hb => ?_
 have la := ha.len
 have lb := hb2.len
 have ax := ha.at hx
 have rx := ha.rows hx
 simp +contextual -implicitDefEqProofs only [k_composed1, eS, lb, go_sem, eI, eB, ↓reduceIte, Nat.reduceEqDiff, Nat.reduceAdd, Nat.reduceLeDiff, lM]
 refine vc_onU (α := Nat) [6, 7, 10, 11, 12, 13, 14, 15, 16, 17, 18, 19, 20, 21, 22, 23, 24, 25, 26, 27, 28, 29] (fun z => [(10, .im none (.sc (.int .i64 z)))]) (fun z => []) (fun z => z ≤ n ∧ dotU (relOf a) (relOf b) z x y = false) (fun z => n - z) 0 (Ent.to [] (by simp only [go_sem]; rfl) rfl (by simp) (by rfl) (by simp only [subEnv, go_sem, ↓reduceIte, Nat.reduceEqDiff, keep, memN] <;> simp)) ⟨Nat.zero_le _, rfl⟩ ?_
 rintro z ⟨hz0, hz1⟩
 by_cases hz : z < n
 ·have az := ha.at2 hx hz
  have bz := hb2.at hz
  have by_ := hb2.at2 hz hy
  have rz := hb2.rows hz
  cases h1 : relOf a x z
  ·rw [h1] at az
   simp +contextual -implicitDefEqProofs only [ax, az, hz, hx, la, rx, D.size, D.sub, go_sem, ↓reduceIte, Nat.reduceEqDiff, Nat.reduceLeDiff, Nat.reduceLT, iL, lM, iN]
   rw [wrap_i64 (by omega) (by omega)]
   exact ⟨z + 1, ⟨by omega, by rw [dotU_succ, hz1, h1]; rfl⟩, by omega, Ent.to [] (by simp only [go_sem]; rfl) rfl (by simp) (by rfl) (by simp only [subEnv, go_sem, ↓reduceIte, Nat.reduceEqDiff] <;> simp)⟩
  rw [h1] at az
  cases h2 : relOf b z y
  ·rw [h2] at by_
   simp +contextual -implicitDefEqProofs only [ax, az, bz, by_, hz, hx, hy, la, lb, rx, rz, D.size, D.sub, go_sem, ↓reduceIte, Nat.reduceEqDiff, Nat.reduceLeDiff, Nat.reduceLT, iL, lM, iN]
   rw [wrap_i64 (by omega) (by omega)]
   exact ⟨z + 1, ⟨by omega, by rw [dotU_succ, hz1, h1, h2]; rfl⟩, by omega, Ent.to [] (by simp only [go_sem]; rfl) rfl (by simp) (by rfl) (by simp only [subEnv, go_sem, ↓reduceIte, Nat.reduceEqDiff] <;> simp)⟩
  ·rw [h2] at by_
   simp +contextual -implicitDefEqProofs only [ax, az, bz, by_, hz, hx, hy, la, lb, rx, rz, D.size, D.sub, go_sem, ↓reduceIte, Nat.reduceEqDiff, Nat.reduceLeDiff, Nat.reduceLT, iL, lM, iN]
   exact D.Le.sc_eq (by unfold dotR; rw [dotU_true hz h1 h2])
 ·obtain rfl : z = n := by omega
  simp +contextual -implicitDefEqProofs only [hz, go_sem, ↓reduceIte, Nat.reduceEqDiff, iL]
  exact D.Le.sc_eq (by unfold dotR; rw [hz1])

def k_composed (f1 f2 : Nat) : RC := (.seq (.reg false [⟨none, .box 2 1 (.t 0)⟩, ⟨none, .box 3 1 (.t 1)⟩, ⟨none, .mv 4 (.c (.ls (some true) 1 []))⟩]) ((.seq (.reg false [⟨none, .ld 5 false 1 (.t 2)⟩, ⟨none, .len 6 (.t 5)⟩, ⟨none, .mkf 7 f2 [(.t 3), (.t 2)]⟩, ⟨none, .call (some 8) f1 [(.t 6), (.t 7)]⟩, ⟨none, .mv 4 (.t 8)⟩]) (.ret))))
def K_composed (P : Program) (fno : Nat) : Prop := ∀ (n : Nat) (a b : SL (SL Bool)) (hn : n ≤ 1000) (ha : Sq n a) (hb2 : Sq n b), AF P fno [eS 1 (eS 1 eB) a, eS 1 (eS 1 eB) b] (.own (eS 1 (eS 1 eB) (rTab n (dotR n (relOf a) (relOf b)))))
theorem a_composed {P : Program} (hm : P.follows .mixedOrders = true) {g f1 f2 : Nat} (hr : resF P g = some (9, k_composed f1 f2, [.t 4])) (hc1 : K_tableB P f1) (hc2 : K_composed1 P f2) : K_composed P g := by
 intro n a b hn ha hb2
 refine af_of_res hr hm rfl fun hb => ?_
 have la := ha.len
 simp +contextual -implicitDefEqProofs only [k_composed, eS, D.at, D.sub, la, go_sem, ↓reduceIte, Nat.reduceEqDiff, Nat.reduceAdd, Nat.reduceLeDiff, Nat.reduceBneDiff, Nat.reduceLT, lM]
 refine callQ_self (ds := [eI n, .fn f2 [.pt (eS 1 (eS 1 eB) b) 0, .pt (eS 1 (eS 1 eB) a) 0]]) (by rfl) (hc1 n f2 _ (dotR n (relOf a) (relOf b)) hn (fun x y hx hy => hc2 n a b x y hn ha hb2 hx hy)) ?_
 simp +contextual -implicitDefEqProofs only [eS, rTab, go_sem, ↓reduceIte, Nat.reduceEqDiff, Nat.reduceBEq, Nat.reduceBneDiff]
end Go.Ax
namespace Go.Ax
set_option maxRecDepth 20000
set_option maxHeartbeats 4000000
theorem vcA_self {P : Program} {R : List RO} {T : Tr} {st : St} {k : St → Prop} (st' : St) (h1 : vcT P R T st (fun s => Ent s st')) (h2 : k st') : vcA P R T st k := ⟨st', h1, h2⟩
def nnI : Nat → Option Bool
 | 0 => some true
 | _ + 1 => some false
def rowM (F : Int → Int → Bool × Int × Int) : Nat → Int × Int → List Bool × Int × Int
 | 0, s => ([], s)
 | n + 1, s => ((rowM F n s).1 ++ [(F (rowM F n s).2.1 (rowM F n s).2.2).1], (F (rowM F n s).2.1 (rowM F n s).2.2).2)
def tSt (F : Int → Int → Bool × Int × Int) (p : Nat) : Nat → Int × Int → Int × Int
 | 0, s => s
 | i + 1, s => (rowM F p (tSt F p i s)).2
def hitM (G : Int → Int → Int → Int × Int × Int) (p x : Nat) : Nat → Rel × Int × Int → Rel × Int × Int
 | 0, r => r
 | j + 1, r => (setR (hitM G p x j r).1 x (G p (hitM G p x j r).2.1 (hitM G p x j r).2.2).1.toNat true, (G p (hitM G p x j r).2.1 (hitM G p x j r).2.2).2)
def kF (G : Int → Int → Int → Int × Int × Int) (r : Rel × Int × Int) : Int × Int × Int := G 3 r.2.1 r.2.2
def tabF (G : Int → Int → Int → Int × Int × Int) (p : Nat) : Nat → Int × Int → Rel × Int × Int
 | 0, s => (fun _ _ => false, s)
 | x + 1, s => hitM G p x (kF G (tabF G p x s)).1.toNat ((tabF G p x s).1, (kF G (tabF G p x s)).2)
def aSt (G : Int → Int → Int → Int × Int × Int) (p : Nat) : Nat → Int × Int → Int × Int
 | 0, s => s
 | i + 1, s => (tabF G p p (aSt G p i s)).2
def OneS (P : Program) (f : Nat) (nn : Option Bool) (c : List Int) (F : Int → Int → Bool × Int × Int) : Prop := ∀ a sd : Int, 0 ≤ a → a ≤ 500000000 → a ≤ (F a sd).2.1 ∧ (F a sd).2.1 ≤ a + 2 ∧
 AFW P f [uS nn c a sd] [.pw 3000000000 0 0, .im none (eI 2)] [uS nn c (F a sd).2.1 (F a sd).2.2] (.own (eB (F a sd).1))
def PickS (P : Program) (f : Nat) (nn : Option Bool) (c : List Int) (G : Int → Int → Int → Int × Int × Int) : Prop := ∀ n a sd : Int, 0 ≤ a → a ≤ 500000000 → a ≤ (G n a sd).2.1 ∧ (G n a sd).2.1 ≤ a + 2 ∧ 0 ≤ (G n a sd).1 ∧ (n ≤ 1 → (G n a sd).1 = 0) ∧ (1 < n → (G n a sd).1 < n) ∧
 AFW P f [uS nn c a sd] [.pw 3000000000 0 0, .im none (eI n)] [uS nn c (G n a sd).2.1 (G n a sd).2.2] (.own (eI (G n a sd).1))
theorem one_fun {P : Program} {f : Nat} (h : K_srcOne P f) (nn : Option Bool) {c : List Int} (hc : srcOk c) : ∃ F, OneS P f nn c F := by
 have h' : ∀ x : Int × Int, ∃ y : Bool × Int × Int, 0 ≤ x.1 → x.1 ≤ 500000000 → x.1 ≤ y.2.1 ∧ y.2.1 ≤ x.1 + 2 ∧ AFW P f [uS nn c x.1 x.2] [.pw 3000000000 0 0, .im none (eI 2)] [uS nn c y.2.1 y.2.2] (.own (eB y.1)) := by
  intro x
  by_cases hx : 0 ≤ x.1 ∧ x.1 ≤ 500000000
  ·obtain ⟨a', sd', b, p1, p2, p3⟩ := h nn c x.1 x.2 2 hc hx.1 hx.2
   exact ⟨(b, a', sd'), fun _ _ => ⟨p1, p2, p3⟩⟩
  ·exact ⟨(false, 0, 0), fun h1 h2 => absurd ⟨h1, h2⟩ hx⟩
 obtain ⟨F, hF⟩ := Classical.skolem.1 h'
 exact ⟨fun a sd => F (a, sd), fun a sd h1 h2 => hF (a, sd) h1 h2⟩
theorem pick_fun {P : Program} {f : Nat} (h : K_srcPick P f) (nn : Option Bool) {c : List Int} (hc : srcOk c) : ∃ G, PickS P f nn c G := by
 have h' : ∀ x : Int × Int × Int, ∃ y : Int × Int × Int, 0 ≤ x.2.1 → x.2.1 ≤ 500000000 → x.2.1 ≤ y.2.1 ∧ y.2.1 ≤ x.2.1 + 2 ∧ 0 ≤ y.1 ∧ (x.1 ≤ 1 → y.1 = 0) ∧ (1 < x.1 → y.1 < x.1) ∧ AFW P f [uS nn c x.2.1 x.2.2] [.pw 3000000000 0 0, .im none (eI x.1)] [uS nn c y.2.1 y.2.2] (.own (eI y.1)) := by
  intro x
  by_cases hx : 0 ≤ x.2.1 ∧ x.2.1 ≤ 500000000
  ·obtain ⟨a', sd', b, p1, p2, p3, p4, p5, p6⟩ := h nn c x.2.1 x.2.2 x.1 hc hx.1 hx.2
   exact ⟨(b, a', sd'), fun _ _ => ⟨p1, p2, p3, p4, p5, p6⟩⟩
  ·exact ⟨(0, 0, 0), fun h1 h2 => absurd ⟨h1, h2⟩ hx⟩
 obtain ⟨G, hG⟩ := Classical.skolem.1 h'
 exact ⟨fun n a sd => G (n, a, sd), fun n a sd h1 h2 => hG (n, a, sd) h1 h2⟩
section
variable {P : Program} {f1 f2 : Nat} {nn : Option Bool} {c : List Int} {F : Int → Int → Bool × Int × Int} {G : Int → Int → Int → Int × Int × Int}
theorem rowM_bd (hF : OneS P f2 nn c F) : ∀ (n : Nat) (s : Int × Int), 0 ≤ s.1 → s.1 + 2 * n ≤ 400000000 → s.1 ≤ (rowM F n s).2.1 ∧ (rowM F n s).2.1 ≤ s.1 + 2 * n ∧ (rowM F n s).1.length = n
 | 0, s, h0, h1 => by simp [rowM]
 | n + 1, s, h0, h1 => by
  obtain ⟨i1, i2, i3⟩ := rowM_bd hF n s h0 (by omega)
  obtain ⟨p1, p2, _⟩ := hF (rowM F n s).2.1 (rowM F n s).2.2 (by omega) (by omega)
  refine ⟨?_, ?_, ?_⟩
  ·simp only [rowM]; omega
  ·simp only [rowM]; push_cast; omega
  ·simp [rowM, i3]
theorem tSt_bd (hF : OneS P f2 nn c F) {p : Nat} (hp : p ≤ 8) : ∀ (i : Nat) (s : Int × Int), 0 ≤ s.1 → s.1 + 16 * i ≤ 300000000 → s.1 ≤ (tSt F p i s).1 ∧ (tSt F p i s).1 ≤ s.1 + 16 * i
 | 0, s, h0, h1 => by simp [tSt]
 | i + 1, s, h0, h1 => by
  obtain ⟨i1, i2⟩ := tSt_bd hF hp i s h0 (by omega)
  obtain ⟨p1, p2, _⟩ := rowM_bd hF p (tSt F p i s) (by omega) (by omega)
  simp only [tSt]; push_cast
  exact ⟨by omega, by omega⟩
theorem hitM_bd (hG : PickS P f1 nn c G) {p x : Nat} : ∀ (j : Nat) (r : Rel × Int × Int), 0 ≤ r.2.1 → r.2.1 + 2 * j ≤ 400000000 → r.2.1 ≤ (hitM G p x j r).2.1 ∧ (hitM G p x j r).2.1 ≤ r.2.1 + 2 * j
 | 0, r, h0, h1 => by simp [hitM]
 | j + 1, r, h0, h1 => by
  obtain ⟨i1, i2⟩ := hitM_bd (p := p) (x := x) hG j r h0 (by omega)
  obtain ⟨p1, p2, _⟩ := hG p (hitM G p x j r).2.1 (hitM G p x j r).2.2 (by omega) (by omega)
  simp only [hitM]; push_cast
  exact ⟨by omega, by omega⟩
theorem kF_bd (hG : PickS P f1 nn c G) {r : Rel × Int × Int} (h0 : 0 ≤ r.2.1) (h1 : r.2.1 ≤ 400000000) : r.2.1 ≤ (kF G r).2.1 ∧ (kF G r).2.1 ≤ r.2.1 + 2 ∧ 0 ≤ (kF G r).1 ∧ (kF G r).1 < 3 := by
 obtain ⟨p1, p2, p3, _, p5, _⟩ := hG 3 r.2.1 r.2.2 h0 (by omega)
 exact ⟨p1, p2, p3, p5 (by omega)⟩
theorem tabF_bd (hG : PickS P f1 nn c G) {p : Nat} : ∀ (x : Nat) (s : Int × Int), 0 ≤ s.1 → s.1 + 6 * x ≤ 300000000 → s.1 ≤ (tabF G p x s).2.1 ∧ (tabF G p x s).2.1 ≤ s.1 + 6 * x
 | 0, s, h0, h1 => by simp [tabF]
 | x + 1, s, h0, h1 => by
  obtain ⟨i1, i2⟩ := tabF_bd (p := p) hG x s h0 (by omega)
  obtain ⟨k1, k2, k3, k4⟩ := kF_bd hG (r := tabF G p x s) (by omega) (by omega)
  obtain ⟨p1, p2⟩ := hitM_bd hG (p := p) (x := x) (kF G (tabF G p x s)).1.toNat ((tabF G p x s).1, (kF G (tabF G p x s)).2) (by simp only; omega) (by simp only; omega)
  simp only at p1 p2
  simp only [tabF]; push_cast
  exact ⟨by omega, by omega⟩
theorem aSt_bd (hG : PickS P f1 nn c G) {p : Nat} (hp : p ≤ 8) : ∀ (i : Nat) (s : Int × Int), 0 ≤ s.1 → s.1 + 48 * i ≤ 200000000 → s.1 ≤ (aSt G p i s).1 ∧ (aSt G p i s).1 ≤ s.1 + 48 * i
 | 0, s, h0, h1 => by simp [aSt]
 | i + 1, s, h0, h1 => by
  obtain ⟨i1, i2⟩ := aSt_bd hG hp i s h0 (by omega)
  obtain ⟨p1, p2⟩ := tabF_bd hG (p := p) p (aSt G p i s) (by omega) (by omega)
  simp only [aSt]; push_cast
  exact ⟨by omega, by omega⟩
end

def moF (F : Int → Int → Bool × Int × Int) (G : Int → Int → Int → Int × Int × Int) (T A p : Nat) (s : Int × Int) : Mo :=
 (((T : Int), (A : Int)), (p : Int), (nnI T, tabL T fun i => (some false, (rowM F p (tSt F p i s)).1)), (nnI A, tabL A fun i => rTab p (tabF G p p (aSt G p i (tSt F p T s))).1))
theorem tabL_at0X {α : Type} {g : Nat → α} : tabL 0 g = [] := rfl
theorem moF_eq {F : Int → Int → Bool × Int × Int} {G : Int → Int → Int → Int × Int × Int} {T A p : Nat} {s : Int × Int} : eM (moF F G T A p s) =
  .ag [.sc (.int .i64 T), .sc (.int .i64 A), .sc (.int .i64 p), .ls (nnI T) 1 (tabL T fun i => .ls (some false) 1 ((rowM F p (tSt F p i s)).1.map eB)), .ls (nnI A) 1 (tabL A fun i => .ls (some false) 1 (rD p (tabF G p p (aSt G p i (tSt F p T s))).1))] := by
 have h : ∀ g : Nat → Rel, (tabL A fun i => rTab p (g i)).map (eS 1 (eS 1 eB)) = tabL A fun i => .ls (some false) 1 (rD p (g i)) := fun g => by rw [tabL_map]; unfold tabL; exact List.map_congr_left fun i _ => rD_eq
 have h2 : ∀ w : Nat → List Bool, (tabL T fun i => ((some false, w i) : SL Bool)).map (eS 1 eB) = tabL T fun i => .ls (some false) 1 ((w i).map eB) := fun w => by rw [tabL_map]; rfl
 rw [← h, ← h2]
 rfl
theorem tabL_mem {α : Type} {n : Nat} {g : Nat → α} {x : α} (h : x ∈ tabL n g) : ∃ i, i < n ∧ g i = x := by
 unfold tabL at h
 rw [List.mem_map] at h
 obtain ⟨i, hi, e⟩ := h
 exact ⟨i, List.mem_range.1 hi, e⟩
theorem moF_ok {P : Program} {f2 : Nat} {nn : Option Bool} {c : List Int} {F : Int → Int → Bool × Int × Int} {G : Int → Int → Int → Int × Int × Int} (hF : OneS P f2 nn c F) {T A p : Nat} {s : Int × Int} (hg : okG ((T : Int), (A : Int)) = true) (hp : p ≤ 8) (h1 : 1 ≤ p) (h0 : 0 ≤ s.1) (hb : s.1 + 16 * T ≤ 200000000) : okMo (moF F G T A p s) = true := by
 have hrow : ∀ i, i < T → (rowM F p (tSt F p i s)).1.length = p := fun i hi => by
  obtain ⟨t1, t2⟩ := tSt_bd hF hp i s h0 (by omega)
  exact (rowM_bd hF p (tSt F p i s) (by omega) (by omega)).2.2
 have hin : isIn (p : Int) 1 8 = true := by simp [isIn]; omega
 simp only [okMo, testsOk, actsOk, tabOk, lenIs, moF, hg, hin, tabL_len, bA, bE, Bool.true_and, List.all_eq_true]
 refine ⟨fun r hr => ?_, fun r hr => ?_⟩
 ·obtain ⟨i, hi, rfl⟩ := tabL_mem hr
  rw [hrow i hi]
  exact beq_self_eq_true _
 ·obtain ⟨i, hi, rfl⟩ := tabL_mem hr
  simp only [rTab, tabL_len, bE, true_and]
  intro r hr
  obtain ⟨j, hj, rfl⟩ := tabL_mem hr
  simp [tabL_len]

def k_l05Draw (f1 f2 f3 : Nat) : RC := (.seq (.reg false [⟨none, .box 4 2 (.t 1)⟩, ⟨none, .zer 6 5 (.ag [(.sc (.int .i64 0)), (.sc (.int .i64 0)), (.sc (.int .i64 0)), (.ls (some true) 1 []), (.ls (some true) 1 [])])⟩]) ((.seq (.regA [⟨none, .ld 15 true 2 (.t 4)⟩, ⟨none, .mv 16 (.t 0)⟩, ⟨none, .mv 17 (.t 2)⟩, ⟨none, .wcl (some 18) f1 [(.t 16), (.t 17)]⟩, ⟨none, .bin 19 .add (.c (.sc (.int .i64 1))) (.t 18)⟩, ⟨none, .bld 20 (.ag [(.sc (.int .i64 0)), (.sc (.int .i64 0)), (.sc (.int .i64 0)), (.ls (some true) 1 []), (.ls (some true) 1 [])]) [(0, 2, (.t 15)), (2, 1, (.t 19))]⟩, ⟨none, .zer 7 5 (.ag [(.sc (.int .i64 0)), (.sc (.int .i64 0)), (.sc (.int .i64 0)), (.ls (some true) 1 []), (.ls (some true) 1 [])])⟩, ⟨none, .st 5 (.t 7) (.t 20)⟩] (.br [(0, (.br [(1, (.br [(2, (.br [(3, (.br [(4, (.br [(5, (.br [(6, (.br [(7, (.br []))]))])), (6, (.br [(5, (.br [(7, (.br []))]))]))])), (6, (.br [(4, (.br [(5, (.br [(7, (.br []))]))]))]))])), (6, (.br [(3, (.br [(4, (.br [(5, (.br [(7, (.br []))]))]))]))]))])), (6, (.br [(2, (.br [(3, (.br [(4, (.br [(5, (.br [(7, (.br []))]))]))]))]))]))])), (2, (.br [(1, (.br [(3, (.br [(4, (.br [(5, (.br [(6, (.br [(7, (.br []))]))])), (6, (.br [(5, (.br [(7, (.br []))]))]))])), (6, (.br [(4, (.br [(5, (.br [(7, (.br []))]))]))]))])), (6, (.br [(3, (.br [(4, (.br [(5, (.br [(7, (.br []))]))]))]))]))])), (6, (.br [(1, (.br [(3, (.br [(4, (.br [(5, (.br [(7, (.br []))]))]))]))]))]))])), (6, (.br [(1, (.br [(2, (.br [(3, (.br [(4, (.br [(5, (.br [(7, (.br []))]))]))]))]))])), (2, (.br [(1, (.br [(3, (.br [(4, (.br [(5, (.br [(7, (.br []))]))]))]))]))]))]))])), (1, (.br [(0, (.br [(2, (.br [(3, (.br [(4, (.br [(5, (.br [(6, (.br [(7, (.br []))]))])), (6, (.br [(5, (.br [(7, (.br []))]))]))])), (6, (.br [(4, (.br [(5, (.br [(7, (.br []))]))]))]))])), (6, (.br [(3, (.br [(4, (.br [(5, (.br [(7, (.br []))]))]))]))]))])), (6, (.br [(2, (.br [(3, (.br [(4, (.br [(5, (.br [(7, (.br []))]))]))]))]))]))])), (2, (.br [(0, (.br [(3, (.br [(4, (.br [(5, (.br [(6, (.br [(7, (.br []))]))])), (6, (.br [(5, (.br [(7, (.br []))]))]))])), (6, (.br [(4, (.br [(5, (.br [(7, (.br []))]))]))]))])), (6, (.br [(3, (.br [(4, (.br [(5, (.br [(7, (.br []))]))]))]))]))])), (3, (.br [(0, (.br [(4, (.br [(5, (.br [(6, (.br [(7, (.br []))]))])), (6, (.br [(5, (.br [(7, (.br []))]))]))])), (6, (.br [(4, (.br [(5, (.br [(7, (.br []))]))]))]))])), (4, (.br [(0, (.br [(5, (.br [(6, (.br [(7, (.br []))]))])), (6, (.br [(5, (.br [(7, (.br []))]))]))])), (6, (.br [(0, (.br [(5, (.br [(7, (.br []))]))]))]))])), (6, (.br [(0, (.br [(4, (.br [(5, (.br [(7, (.br []))]))]))])), (4, (.br [(0, (.br [(5, (.br [(7, (.br []))]))]))]))]))])), (6, (.br [(0, (.br [(3, (.br [(4, (.br [(5, (.br [(7, (.br []))]))]))]))])), (3, (.br [(0, (.br [(4, (.br [(5, (.br [(7, (.br []))]))]))])), (4, (.br [(0, (.br [(5, (.br [(7, (.br []))]))]))]))]))]))])), (6, (.br [(0, (.br [(2, (.br [(3, (.br [(4, (.br [(5, (.br [(7, (.br []))]))]))]))]))])), (2, (.br [(0, (.br [(3, (.br [(4, (.br [(5, (.br [(7, (.br []))]))]))]))])), (3, (.br [(0, (.br [(4, (.br [(5, (.br [(7, (.br []))]))]))])), (4, (.br [(0, (.br [(5, (.br [(7, (.br []))]))]))]))]))]))]))])), (2, (.br [(0, (.br [(1, (.br [(3, (.br [(4, (.br [(5, (.br [(6, (.br [(7, (.br []))]))])), (6, (.br [(5, (.br [(7, (.br []))]))]))])), (6, (.br [(4, (.br [(5, (.br [(7, (.br []))]))]))]))])), (6, (.br [(3, (.br [(4, (.br [(5, (.br [(7, (.br []))]))]))]))]))])), (6, (.br [(1, (.br [(3, (.br [(4, (.br [(5, (.br [(7, (.br []))]))]))]))]))]))])), (1, (.br [(0, (.br [(3, (.br [(4, (.br [(5, (.br [(6, (.br [(7, (.br []))]))])), (6, (.br [(5, (.br [(7, (.br []))]))]))])), (6, (.br [(4, (.br [(5, (.br [(7, (.br []))]))]))]))])), (6, (.br [(3, (.br [(4, (.br [(5, (.br [(7, (.br []))]))]))]))]))])), (3, (.br [(0, (.br [(4, (.br [(5, (.br [(6, (.br [(7, (.br []))]))])), (6, (.br [(5, (.br [(7, (.br []))]))]))])), (6, (.br [(4, (.br [(5, (.br [(7, (.br []))]))]))]))])), (4, (.br [(0, (.br [(5, (.br [(6, (.br [(7, (.br []))]))])), (6, (.br [(5, (.br [(7, (.br []))]))]))])), (6, (.br [(0, (.br [(5, (.br [(7, (.br []))]))]))]))])), (6, (.br [(0, (.br [(4, (.br [(5, (.br [(7, (.br []))]))]))])), (4, (.br [(0, (.br [(5, (.br [(7, (.br []))]))]))]))]))])), (6, (.br [(0, (.br [(3, (.br [(4, (.br [(5, (.br [(7, (.br []))]))]))]))])), (3, (.br [(0, (.br [(4, (.br [(5, (.br [(7, (.br []))]))]))])), (4, (.br [(0, (.br [(5, (.br [(7, (.br []))]))]))]))]))]))])), (6, (.br [(0, (.br [(1, (.br [(3, (.br [(4, (.br [(5, (.br [(7, (.br []))]))]))]))]))])), (1, (.br [(0, (.br [(3, (.br [(4, (.br [(5, (.br [(7, (.br []))]))]))]))])), (3, (.br [(0, (.br [(4, (.br [(5, (.br [(7, (.br []))]))]))])), (4, (.br [(0, (.br [(5, (.br [(7, (.br []))]))]))]))]))]))]))])), (6, (.br [(0, (.br [(1, (.br [(2, (.br [(3, (.br [(4, (.br [(5, (.br [(7, (.br []))]))]))]))]))])), (2, (.br [(1, (.br [(3, (.br [(4, (.br [(5, (.br [(7, (.br []))]))]))]))]))]))])), (1, (.br [(0, (.br [(2, (.br [(3, (.br [(4, (.br [(5, (.br [(7, (.br []))]))]))]))]))])), (2, (.br [(0, (.br [(3, (.br [(4, (.br [(5, (.br [(7, (.br []))]))]))]))])), (3, (.br [(0, (.br [(4, (.br [(5, (.br [(7, (.br []))]))]))])), (4, (.br [(0, (.br [(5, (.br [(7, (.br []))]))]))]))]))]))])), (2, (.br [(0, (.br [(1, (.br [(3, (.br [(4, (.br [(5, (.br [(7, (.br []))]))]))]))]))])), (1, (.br [(0, (.br [(3, (.br [(4, (.br [(5, (.br [(7, (.br []))]))]))]))])), (3, (.br [(0, (.br [(4, (.br [(5, (.br [(7, (.br []))]))]))])), (4, (.br [(0, (.br [(5, (.br [(7, (.br []))]))]))]))]))]))]))]))])) ((.seq ((.seq (.reg false [⟨none, .mv 8 (.c (.sc (.int .i64 0)))⟩]) (.blk 0 (.loop ((.seq ((.seq (.reg false [⟨none, .mv 21 (.t 8)⟩, ⟨none, .fa 22 0 (.t 4)⟩, ⟨none, .ld 23 false 1 (.t 22)⟩, ⟨none, .bin 24 .lss (.t 21) (.t 23)⟩]) (.cond (.t 24) (.skip) (.exit 0)))) ((.seq (.blk 1 ((.seq (.reg false [⟨none, .bs 27 1 (.sc (.bool false)) 0 []⟩, ⟨none, .mv 9 (.t 27)⟩]) ((.seq ((.seq (.reg false [⟨none, .mv 10 (.c (.sc (.int .i64 0)))⟩]) (.blk 2 (.loop ((.seq ((.seq (.reg false [⟨none, .mv 28 (.t 10)⟩, ⟨none, .fa 29 2 (.t 7)⟩, ⟨none, .ld 30 false 1 (.t 29)⟩, ⟨none, .bin 31 .lss (.t 28) (.t 30)⟩]) (.cond (.t 31) (.skip) (.exit 2)))) ((.seq (.blk 3 (.reg false [⟨none, .mv 34 (.t 9)⟩, ⟨none, .mv 35 (.t 0)⟩, ⟨none, .wcl (some 36) f2 [(.t 35), (.c (.sc (.int .i64 2)))]⟩, ⟨none, .bs 37 1 (.sc (.bool false)) 1 [(0, (.t 36))]⟩, ⟨none, .app 38 1 1 (.t 34) (.t 37)⟩, ⟨none, .mv 9 (.t 38)⟩])) (.reg false [⟨none, .mv 32 (.t 10)⟩, ⟨none, .bin 33 .add (.t 32) (.c (.sc (.int .i64 1)))⟩, ⟨none, .mv 10 (.t 33)⟩]))))))))) (.reg false [⟨none, .fa 39 3 (.t 7)⟩, ⟨none, .ld 40 false 1 (.t 39)⟩, ⟨none, .mv 41 (.t 9)⟩, ⟨none, .bs 42 1 (.ls (some true) 1 []) 1 [(0, (.t 41))]⟩, ⟨none, .app 43 1 24 (.t 40) (.t 42)⟩, ⟨none, .fa 44 3 (.t 7)⟩, ⟨none, .st 1 (.t 44) (.t 43)⟩])))))) (.reg false [⟨none, .mv 25 (.t 8)⟩, ⟨none, .bin 26 .add (.t 25) (.c (.sc (.int .i64 1)))⟩, ⟨none, .mv 8 (.t 26)⟩]))))))))) ((.seq ((.seq (.reg false [⟨none, .mv 11 (.c (.sc (.int .i64 0)))⟩]) (.blk 4 (.loop ((.seq ((.seq (.reg false [⟨none, .mv 45 (.t 11)⟩, ⟨none, .fa 46 1 (.t 4)⟩, ⟨none, .ld 47 false 1 (.t 46)⟩, ⟨none, .bin 48 .lss (.t 45) (.t 47)⟩]) (.cond (.t 48) (.skip) (.exit 4)))) ((.seq (.blk 5 ((.seq (.reg false [⟨none, .fa 51 2 (.t 7)⟩, ⟨none, .ld 52 false 1 (.t 51)⟩, ⟨none, .call (some 53) f3 [(.t 52)]⟩, ⟨none, .mv 12 (.t 53)⟩]) ((.seq ((.seq (.reg false [⟨none, .mv 13 (.c (.sc (.int .i64 0)))⟩]) (.blk 6 (.loop ((.seq ((.seq (.reg false [⟨none, .mv 54 (.t 13)⟩, ⟨none, .fa 55 2 (.t 7)⟩, ⟨none, .ld 56 false 1 (.t 55)⟩, ⟨none, .bin 57 .lss (.t 54) (.t 56)⟩]) (.cond (.t 57) (.skip) (.exit 6)))) ((.seq (.blk 7 ((.seq (.reg false [⟨none, .mv 60 (.t 0)⟩, ⟨none, .wcl (some 61) f1 [(.t 60), (.c (.sc (.int .i64 3)))]⟩, ⟨none, .mv 14 (.t 61)⟩]) (.blk 8 (.loop ((.seq ((.seq (.reg false [⟨none, .mv 62 (.t 14)⟩, ⟨none, .bin 63 .gtr (.t 62) (.c (.sc (.int .i64 0)))⟩]) (.cond (.t 63) (.skip) (.exit 8)))) ((.seq (.blk 9 (.regL [⟨none, .mv 66 (.t 12)⟩, ⟨none, .mv 67 (.t 13)⟩, ⟨none, .ia 68 1 (.t 66) (.t 67)⟩, ⟨none, .ld 69 false 1 (.t 68)⟩, ⟨none, .mv 70 (.t 0)⟩, ⟨none, .fa 71 2 (.t 7)⟩, ⟨none, .ld 72 false 1 (.t 71)⟩] [([(.ia 68 1 (.t 66) (.t 67)), (.ld 69 false 1 (.t 68))], ⟨none, .wcl (some 73) f1 [(.t 70), (.t 72)]⟩), ([(.ia 68 1 (.t 66) (.t 67)), (.ld 69 false 1 (.t 68))], ⟨none, .ia 74 1 (.t 69) (.t 73)⟩), ([], ⟨none, .st 1 (.t 74) (.c (.sc (.bool true)))⟩)])) (.reg false [⟨none, .mv 64 (.t 14)⟩, ⟨none, .bin 65 .sub (.t 64) (.c (.sc (.int .i64 1)))⟩, ⟨none, .mv 14 (.t 65)⟩])))))))))) (.reg false [⟨none, .mv 58 (.t 13)⟩, ⟨none, .bin 59 .add (.t 58) (.c (.sc (.int .i64 1)))⟩, ⟨none, .mv 13 (.t 59)⟩]))))))))) (.reg false [⟨none, .fa 75 4 (.t 7)⟩, ⟨none, .ld 76 false 1 (.t 75)⟩, ⟨none, .mv 77 (.t 12)⟩, ⟨none, .bs 78 1 (.ls (some true) 1 []) 1 [(0, (.t 77))]⟩, ⟨none, .app 79 1 24 (.t 76) (.t 78)⟩, ⟨none, .fa 80 4 (.t 7)⟩, ⟨none, .st 1 (.t 80) (.t 79)⟩])))))) (.reg false [⟨none, .mv 49 (.t 11)⟩, ⟨none, .bin 50 .add (.t 49) (.c (.sc (.int .i64 1)))⟩, ⟨none, .mv 11 (.t 50)⟩]))))))))) ((.seq (.reg false [⟨none, .ld 81 true 5 (.t 7)⟩, ⟨none, .st 5 (.t 6) (.t 81)⟩]) (.ret))))))))))
def K_l05Draw (P : Program) (fno : Nat) : Prop := ∀ (nn : Option Bool) (c : List Int) (a sd : Int) (g : Int × Int) (m : Int), srcOk c → okG g = true → 0 ≤ a → a ≤ 100000000 → 1 ≤ m → m ≤ 8 → ∃ a' sd' mo, a ≤ a' ∧ a' ≤ a + 300 ∧ mo.1 = g ∧ okMo mo = true ∧ mo.2.1 ≤ m ∧ 1 ≤ mo.2.1 ∧ AFW P fno [uS nn c a sd] [.pw 3000000000 0 0, .im none (eG g), .im none (eI m)] [uS nn c a' sd'] (.own (eM mo))
theorem a_l05Draw {P : Program} (hm : P.follows .mixedOrders = true) {g f1 f2 f3 : Nat} (hr : resF P g = some (82, k_l05Draw f1 f2 f3, [.c 6 5 true])) (hc1 : K_srcPick P f1) (hc2 : K_srcOne P f2) (hc3 : K_l05None P f3) : K_l05Draw P g := by
  intro nn c a sd g m hc hg h0 hA hm1 hm8
  obtain ⟨F, hF⟩ := one_fun hc2 nn hc
  obtain ⟨G, hG⟩ := pick_fun hc1 nn hc
  obtain ⟨g1, g2⟩ := g
  have hgb : 0 ≤ g1 ∧ g1 ≤ 3 ∧ 0 ≤ g2 ∧ g2 ≤ 4 := by simp [okG, isIn] at hg; omega
  obtain ⟨T, rfl⟩ : ∃ T : Nat, g1 = T := ⟨g1.toNat, by omega⟩
  obtain ⟨A, rfl⟩ : ∃ A : Nat, g2 = A := ⟨g2.toNat, by omega⟩
  obtain ⟨z1, z2, z3, z4, z5, hP⟩ := hG m a sd h0 (by omega)
  generalize hr0 : G m a sd = r0 at z1 z2 z3 z4 z5 hP
  obtain ⟨x0, a0, sd0⟩ := r0
  simp only at z1 z2 z3 z4 z5 hP
  obtain ⟨p, hp⟩ : ∃ p : Nat, 1 + x0 = p := ⟨(1 + x0).toNat, by omega⟩
  have hx0 : x0 < m := (Int.lt_or_le 1 m).elim (fun h => z5 h) (fun h => by have := z4 h; omega)
  have hp8 : p ≤ 8 := by omega
  have wp : IntKind.i64.wrap (1 + x0) = p := by rw [wrap_i64 (by omega) (by omega), hp]
  obtain ⟨s, hs1, hs2⟩ : ∃ s : Int × Int, a0 = s.1 ∧ sd0 = s.2 := ⟨(a0, sd0), rfl, rfl⟩
  subst hs1 hs2
  obtain ⟨t1, t2⟩ := tSt_bd hF hp8 T s (by omega) (by omega)
  obtain ⟨t3, t4⟩ := aSt_bd hG hp8 A (tSt F p T s) (by omega) (by omega)
  refine ⟨(aSt G p A (tSt F p T s)).1, (aSt G p A (tSt F p T s)).2, moF F G T A p s, by omega, by omega, rfl, moF_ok hF hg hp8 (by omega) (by omega) (by omega), by show (p : Int) ≤ m; omega, by show (1 : Int) ≤ p; omega, ?_⟩
  rw [moF_eq]
  refine afw_of_res (wv := .no) hr hm rfl rfl rfl fun hb ha => ?_
  simp +contextual -implicitDefEqProofs only [k_l05Draw, uS, srcD, eI, eG, D.size, D.sizeL, bne, bN, bU, go_sem, ↓reduceIte, Nat.reduceEqDiff, Nat.reduceAdd, Nat.reduceBEq, Nat.reduceLT]
  refine vcA_self ⟨82, [(7, .pw 7 0 0), (6, .pw 6 0 0), (4, .pw 4 0 0), (0, .pw 3000000000 0 0), (2, .im none (.sc (.int .i64 m)))], [(7, .ar true (some false) 5 [.ag [.sc (.int .i64 T), .sc (.int .i64 A), .sc (.int .i64 p), .ls (some true) 1 [], .ls (some true) 1 []]]), (6, .ar true (some false) 5 [.ag [.sc (.int .i64 0), .sc (.int .i64 0), .sc (.int .i64 0), .ls (some true) 1 [], .ls (some true) 1 []]]), (4, .ar false (some false) 2 [.ag [.sc (.int .i64 T), .sc (.int .i64 A)]]), (3000000000, .ar false none 3 [.ag [.ls nn 1 (c.map eU), .sc (.int .i64 (s).1), .sc (.int .u64 (s).2)]])]⟩ ?_ ?_
  · simp (maxSteps := 50000000) +contextual -implicitDefEqProofs only [D.size, D.sizeL, D.isAg, D.sub, bne, bN, bU, go_sem, ↓reduceIte, Nat.reduceEqDiff, Nat.reduceAdd, Nat.reduceLeDiff, Nat.reduceBEq, Nat.reduceLT, Nat.reduceSub, decide_true, and_self, true_and, and_true, implies_true, bF, List.cons_append, List.nil_append]
    repeat' apply And.intro
    all_goals first
      | exact Ent.to [] (by simp only [go_sem]; rfl) rfl (by simp []) (by rfl) (by simp only [subEnv, go_sem, ↓reduceIte, Nat.reduceEqDiff, Nat.reduceBEq, keep, memN, Bool.or_false, Bool.false_or, Bool.or_self] <;> simp)
      | (refine wcl_self [3000000000] [] (by rfl) (by rfl) (by rfl) hP rfl (by simp [wOut, outU, uS, srcD, noPtrs, D.noPtr, shWL, AV.shW, posW, shUs, U.shW, St.unit, lu]) ?_
         simp (maxSteps := 50000000) +contextual -implicitDefEqProofs only [uS, srcD, eI, wp, D.put, D.cells, D.size, D.sizeL, D.isAg, D.sub, modeOf, noPtrs, bne, bN, bU, Bool.or_true, Bool.or_false, go_sem, eI, ↓reduceIte, Nat.reduceEqDiff, Nat.reduceAdd, Nat.reduceLeDiff, Nat.reduceBEq, Nat.reduceLT, and_self, true_and, implies_true, bF, List.cons_append, List.nil_append]
         repeat' apply And.intro
         all_goals exact Ent.to [] (by simp only [go_sem]; rfl) rfl (by simp []) (by rfl) (by simp only [subEnv, go_sem, ↓reduceIte, Nat.reduceEqDiff] <;> simp))
  simp +contextual -implicitDefEqProofs only [go_sem, ↓reduceIte]
  refine vc_onU (α := Nat) [8, 9, 10, 21, 22, 23, 24, 25, 26, 27, 28, 29, 30, 31, 32, 33, 34, 35, 36, 37, 38, 39, 40, 41, 42, 43, 44] (fun i => [(8, .im none (.sc (.int .i64 i)))]) (fun i => [(7, .ar true (some false) 5 [.ag [.sc (.int .i64 T), .sc (.int .i64 A), .sc (.int .i64 p), .ls (nnI i) 1 (tabL i fun (q : Nat) => .ls (some false) 1 ((rowM F p (tSt F p q s)).1.map eB)), .ls (some true) 1 []]]), (6, .ar true (some false) 5 [.ag [.sc (.int .i64 0), .sc (.int .i64 0), .sc (.int .i64 0), .ls (some true) 1 [], .ls (some true) 1 []]]), (4, .ar false (some false) 2 [.ag [.sc (.int .i64 T), .sc (.int .i64 A)]]), (3000000000, .ar false none 3 [.ag [.ls nn 1 (c.map eU), .sc (.int .i64 (tSt F p i s).1), .sc (.int .u64 (tSt F p i s).2)]])]) (fun i => i ≤ T) (fun i => T - i) 0 (Ent.to [] (by simp only [go_sem]; rfl) rfl (by simp [nnI, tabL_at0X, tSt]) (by rfl) (by simp only [subEnv, go_sem, ↓reduceIte, Nat.reduceEqDiff, keep, memN] <;> simp)) (Nat.zero_le _) ?_
  intro i hi0
  obtain ⟨ti1, ti2⟩ := tSt_bd hF hp8 i s (by omega) (by omega)
  by_cases hi : i < T
  · simp +contextual -implicitDefEqProofs only [hi, iL, D.isAg, D.sub, bne, bN, bU, go_sem, ↓reduceIte, Nat.reduceEqDiff, Nat.reduceLeDiff, Nat.reduceBEq, Nat.reduceLT]
    refine vc_onU (α := Nat) [9, 10, 27, 28, 29, 30, 31, 32, 33, 34, 35, 36, 37, 38] (fun j => [(10, .im none (.sc (.int .i64 j))), (9, .sm 27 0 j)]) (fun j => [(27, .ar true (some false) 1 ((rowM F j (tSt F p i s)).1.map eB)), (7, .ar true (some false) 5 [.ag [.sc (.int .i64 T), .sc (.int .i64 A), .sc (.int .i64 p), .ls (nnI i) 1 (tabL i fun (q : Nat) => .ls (some false) 1 ((rowM F p (tSt F p q s)).1.map eB)), .ls (some true) 1 []]]), (6, .ar true (some false) 5 [.ag [.sc (.int .i64 0), .sc (.int .i64 0), .sc (.int .i64 0), .ls (some true) 1 [], .ls (some true) 1 []]]), (4, .ar false (some false) 2 [.ag [.sc (.int .i64 T), .sc (.int .i64 A)]]), (3000000000, .ar false none 3 [.ag [.ls nn 1 (c.map eU), .sc (.int .i64 ((rowM F j (tSt F p i s)).2).1), .sc (.int .u64 ((rowM F j (tSt F p i s)).2).2)]])]) (fun j => j ≤ p) (fun j => p - j) 0 (Ent.to [] (by simp only [go_sem]; rfl) rfl (by simp [rowM]) (by rfl) (by simp only [subEnv, go_sem, ↓reduceIte, Nat.reduceEqDiff, keep, memN] <;> simp)) (Nat.zero_le _) ?_
    intro j hj0
    obtain ⟨rj1, rj2, rj3⟩ := rowM_bd hF j (tSt F p i s) (by omega) (by omega)
    by_cases hj : j < p
    · have hO := (hF (rowM F j (tSt F p i s)).2.1 (rowM F j (tSt F p i s)).2.2 (by omega) (by omega)).2.2
      simp +contextual -implicitDefEqProofs only [hj, iL, D.isAg, D.sub, go_sem, ↓reduceIte, Nat.reduceEqDiff, Nat.reduceAdd, Nat.reduceLeDiff, Nat.reduceLT]
      refine wcl_self [3000000000] [] (by rfl) (by rfl) (by rfl) hO rfl (by simp [wOut, outU, uS, srcD, noPtrs, D.noPtr, shWL, AV.shW, posW, shUs, U.shW, St.unit, lu]) ?_
      simp +contextual -implicitDefEqProofs only [uS, srcD, eB, rj3, lM, D.size, modeOf, noPtrs, bne, bN, bU, Bool.or_true, Bool.or_false, go_sem, ↓reduceIte, Nat.reduceEqDiff, Nat.reduceLeDiff, Nat.reduceMul, Nat.reduceBEq, Nat.reduceLT]
      refine ⟨rfl, ⟨by omega, by unfold maxEl; omega, by simp [D.size]⟩, j + 1, by omega, by omega, ?_⟩
      rw [wrap_i64 (by omega) (by omega)]
      exact Ent.to [] (by simp only [go_sem]; rfl) rfl (by simp [rowM, eB]) (by rfl) (by simp only [subEnv, go_sem, ↓reduceIte, Nat.reduceEqDiff] <;> simp)
    · obtain rfl : p = j := by omega
      simp +contextual -implicitDefEqProofs only [hj, iL, rj3, D.put, D.cells, D.size, D.isAg, D.sub, modeOf, noPtrs, lM, bne, bN, Bool.false_and, bU, Bool.or_true, Bool.or_false, go_sem, ↓reduceIte, Nat.reduceEqDiff, Nat.reduceAdd, Nat.reduceLeDiff, Nat.reduceMul, Nat.reduceBEq, Nat.reduceLT]
      refine ⟨rfl, ⟨by rw [tabL_len]; omega, by rw [tabL_len]; unfold maxEl; omega, by simp [D.size]⟩, i + 1, by omega, by omega, ?_⟩
      rw [wrap_i64 (by omega) (by omega)]
      exact Ent.to [] (by simp only [go_sem]; rfl) rfl (by simp [nnI, tabL_succ, tSt]) (by rfl) (by simp only [subEnv, go_sem, ↓reduceIte, Nat.reduceEqDiff] <;> simp)
  · obtain rfl : T = i := by omega
    simp +contextual -implicitDefEqProofs only [hi, iL, D.isAg, D.sub, go_sem, ↓reduceIte, Nat.reduceEqDiff, Nat.reduceLeDiff, Nat.reduceLT]
    refine vc_onU (α := Nat) [11, 12, 13, 14, 45, 46, 47, 48, 49, 50, 51, 52, 53, 54, 55, 56, 57, 58, 59, 60, 61, 62, 63, 64, 65, 66, 67, 68, 69, 70, 71, 72, 73, 74, 75, 76, 77, 78, 79, 80] (fun i => [(11, .im none (.sc (.int .i64 i)))]) (fun i => [(7, .ar true (some false) 5 [.ag [.sc (.int .i64 T), .sc (.int .i64 A), .sc (.int .i64 p), .ls (nnI T) 1 (tabL T fun (q : Nat) => .ls (some false) 1 ((rowM F p (tSt F p q s)).1.map eB)), .ls (nnI i) 1 (tabL i fun (q : Nat) => .ls (some false) 1 (rD p (tabF G p p (aSt G p q (tSt F p T s))).1))]]), (6, .ar true (some false) 5 [.ag [.sc (.int .i64 0), .sc (.int .i64 0), .sc (.int .i64 0), .ls (some true) 1 [], .ls (some true) 1 []]]), (4, .ar false (some false) 2 [.ag [.sc (.int .i64 T), .sc (.int .i64 A)]]), (3000000000, .ar false none 3 [.ag [.ls nn 1 (c.map eU), .sc (.int .i64 ((aSt G p i (tSt F p T s))).1), .sc (.int .u64 ((aSt G p i (tSt F p T s))).2)]])]) (fun i => i ≤ A) (fun i => A - i) 0 (Ent.to [] (by simp only [go_sem]; rfl) rfl (by simp [nnI, tabL_at0X, aSt]) (by rfl) (by simp only [subEnv, go_sem, ↓reduceIte, Nat.reduceEqDiff, keep, memN] <;> simp)) (Nat.zero_le _) ?_
    intro i hi0
    obtain ⟨ai1, ai2⟩ := aSt_bd hG hp8 i (tSt F p T s) (by omega) (by omega)
    by_cases hi : i < A
    · simp +contextual -implicitDefEqProofs only [hi, iL, D.isAg, D.sub, go_sem, ↓reduceIte, Nat.reduceEqDiff, Nat.reduceAdd, Nat.reduceLeDiff, Nat.reduceLT]
      refine callQ_self (ds := [eI p]) (by rfl) (hc3 p (by omega)) ?_
      simp +contextual -implicitDefEqProofs only [rD_len, bne, bN, bU, go_sem, ↓reduceIte, Nat.reduceBEq]
      refine vc_onU (α := Nat) [13, 14, 54, 55, 56, 57, 58, 59, 60, 61, 62, 63, 64, 65, 66, 67, 68, 69, 70, 71, 72, 73, 74] (fun x => [(13, .im none (.sc (.int .i64 x)))]) (fun x => [(53, .ar true (some false) 1 (rD p (tabF G p x (aSt G p i (tSt F p T s))).1)), (7, .ar true (some false) 5 [.ag [.sc (.int .i64 T), .sc (.int .i64 A), .sc (.int .i64 p), .ls (nnI T) 1 (tabL T fun (q : Nat) => .ls (some false) 1 ((rowM F p (tSt F p q s)).1.map eB)), .ls (nnI i) 1 (tabL i fun (q : Nat) => .ls (some false) 1 (rD p (tabF G p p (aSt G p q (tSt F p T s))).1))]]), (6, .ar true (some false) 5 [.ag [.sc (.int .i64 0), .sc (.int .i64 0), .sc (.int .i64 0), .ls (some true) 1 [], .ls (some true) 1 []]]), (4, .ar false (some false) 2 [.ag [.sc (.int .i64 T), .sc (.int .i64 A)]]), (3000000000, .ar false none 3 [.ag [.ls nn 1 (c.map eU), .sc (.int .i64 ((tabF G p x (aSt G p i (tSt F p T s))).2).1), .sc (.int .u64 ((tabF G p x (aSt G p i (tSt F p T s))).2).2)]])]) (fun x => x ≤ p) (fun x => p - x) 0 (Ent.to [] (by simp only [go_sem]; rfl) rfl (by simp [tabF]) (by rfl) (by simp only [subEnv, go_sem, ↓reduceIte, Nat.reduceEqDiff, keep, memN] <;> simp)) (Nat.zero_le _) ?_
      intro x hx0
      obtain ⟨xi1, xi2⟩ := tabF_bd (p := p) hG x (aSt G p i (tSt F p T s)) (by omega) (by omega)
      by_cases hx : x < p
      · have hK := (hG 3 (tabF G p x (aSt G p i (tSt F p T s))).2.1 (tabF G p x (aSt G p i (tSt F p T s))).2.2 (by omega) (by omega)).2.2.2.2.2
        obtain ⟨k1, k2, k3, k4⟩ := kF_bd hG (r := tabF G p x (aSt G p i (tSt F p T s))) (by omega) (by omega)
        simp +contextual -implicitDefEqProofs only [hx, iL, D.isAg, D.sub, go_sem, ↓reduceIte, Nat.reduceEqDiff, Nat.reduceAdd, Nat.reduceLeDiff, Nat.reduceLT]
        refine wcl_self [3000000000] [] (by rfl) (by rfl) (by rfl) hK rfl (by simp [wOut, outU, uS, srcD, noPtrs, D.noPtr, shWL, AV.shW, posW, shUs, U.shW, St.unit, lu]) ?_
        simp +contextual -implicitDefEqProofs only [uS, srcD, eI, Bool.or_false, go_sem, ↓reduceIte, Nat.reduceEqDiff]
        refine vc_onU (α := Nat) [14, 62, 63, 64, 65, 66, 67, 68, 69, 70, 71, 72, 73, 74] (fun j => [(14, .im none (.sc (.int .i64 ((kF G (tabF G p x (aSt G p i (tSt F p T s)))).1 - (j : Int)))))]) (fun j => [(53, .ar true (some false) 1 (rD p (hitM G p x j ((tabF G p x (aSt G p i (tSt F p T s))).1, (kF G (tabF G p x (aSt G p i (tSt F p T s)))).2)).1)), (7, .ar true (some false) 5 [.ag [.sc (.int .i64 T), .sc (.int .i64 A), .sc (.int .i64 p), .ls (nnI T) 1 (tabL T fun (q : Nat) => .ls (some false) 1 ((rowM F p (tSt F p q s)).1.map eB)), .ls (nnI i) 1 (tabL i fun (q : Nat) => .ls (some false) 1 (rD p (tabF G p p (aSt G p q (tSt F p T s))).1))]]), (6, .ar true (some false) 5 [.ag [.sc (.int .i64 0), .sc (.int .i64 0), .sc (.int .i64 0), .ls (some true) 1 [], .ls (some true) 1 []]]), (4, .ar false (some false) 2 [.ag [.sc (.int .i64 T), .sc (.int .i64 A)]]), (3000000000, .ar false none 3 [.ag [.ls nn 1 (c.map eU), .sc (.int .i64 ((hitM G p x j ((tabF G p x (aSt G p i (tSt F p T s))).1, (kF G (tabF G p x (aSt G p i (tSt F p T s)))).2)).2).1), .sc (.int .u64 ((hitM G p x j ((tabF G p x (aSt G p i (tSt F p T s))).1, (kF G (tabF G p x (aSt G p i (tSt F p T s)))).2)).2).2)]])]) (fun j => j ≤ (kF G (tabF G p x (aSt G p i (tSt F p T s)))).1.toNat) (fun j => (kF G (tabF G p x (aSt G p i (tSt F p T s)))).1.toNat - j) 0 (Ent.to [] (by simp only [go_sem]; rfl) rfl (by simp [hitM, kF]) (by rfl) (by simp only [subEnv, go_sem, ↓reduceIte, Nat.reduceEqDiff, keep, memN] <;> simp [kF])) (Nat.zero_le _) ?_
        intro j hj0
        obtain ⟨hi1, hi2⟩ := hitM_bd (p := p) (x := x) hG j ((tabF G p x (aSt G p i (tSt F p T s))).1, (kF G (tabF G p x (aSt G p i (tSt F p T s)))).2) (by simp only; omega) (by simp only; omega)
        simp only at hi1 hi2
        by_cases hj : (kF G (tabF G p x (aSt G p i (tSt F p T s)))).1 - (j : Int) > 0
        · obtain ⟨y1, y2, y3, y4, y5, hY⟩ := hG p (hitM G p x j ((tabF G p x (aSt G p i (tSt F p T s))).1, (kF G (tabF G p x (aSt G p i (tSt F p T s)))).2)).2.1 (hitM G p x j ((tabF G p x (aSt G p i (tSt F p T s))).1, (kF G (tabF G p x (aSt G p i (tSt F p T s)))).2)).2.2 (by omega) (by omega)
          have y6 : (G p (hitM G p x j ((tabF G p x (aSt G p i (tSt F p T s))).1, (kF G (tabF G p x (aSt G p i (tSt F p T s)))).2)).2.1 (hitM G p x j ((tabF G p x (aSt G p i (tSt F p T s))).1, (kF G (tabF G p x (aSt G p i (tSt F p T s)))).2)).2.2).1 < p := (Int.lt_or_le 1 (p : Int)).elim (fun h => y5 h) (fun h => by have := y4 h; omega)
          have e1 := rD_at (R := (hitM G p x j ((tabF G p x (aSt G p i (tSt F p T s))).1, (kF G (tabF G p x (aSt G p i (tSt F p T s)))).2)).1) hx
          simp +contextual -implicitDefEqProofs only [hj, hx, e1, iL, D.isAg, D.sub, go_sem, ↓reduceIte, Nat.reduceEqDiff, Nat.reduceAdd, Nat.reduceLeDiff, Nat.reduceLT, iN]
          refine wcl_self [3000000000] [] (by rfl) (by rfl) (by rfl) hY rfl (by simp [wOut, outU, uS, srcD, noPtrs, D.noPtr, shWL, AV.shW, posW, shUs, U.shW, St.unit, lu]) ?_
          simp +contextual -implicitDefEqProofs only [uS, srcD, eI, hx, e1, y3, y6, rD_len, rRow_len, inSet, rD_set, D.put, D.size, D.isAg, D.sub, Bool.or_false, go_sem, ↓reduceIte, Nat.reduceEqDiff, Nat.reduceLeDiff, Nat.reduceBEq, Nat.reduceLT, iL, iN]
          refine ⟨by omega, j + 1, by omega, by omega, ?_⟩
          rw [wrap_i64 (by omega) (by omega), show (kF G (tabF G p x (aSt G p i (tSt F p T s)))).1 - (j : Int) - 1 = (kF G (tabF G p x (aSt G p i (tSt F p T s)))).1 - ((j + 1 : Nat) : Int) by omega]
          exact Ent.to [] (by simp only [go_sem]; rfl) rfl (by simp [hitM]) (by rfl) (by simp only [subEnv, go_sem, ↓reduceIte, Nat.reduceEqDiff] <;> simp)
        · have hjk : j = (kF G (tabF G p x (aSt G p i (tSt F p T s)))).1.toNat := by omega
          simp +contextual -implicitDefEqProofs only [hj, go_sem, ↓reduceIte, Nat.reduceEqDiff]
          refine ⟨x + 1, by omega, by omega, ?_⟩
          rw [wrap_i64 (by omega) (by omega), hjk]
          exact Ent.to [] (by simp only [go_sem]; rfl) rfl (by simp [tabF]) (by rfl) (by simp only [subEnv, go_sem, ↓reduceIte, Nat.reduceEqDiff] <;> simp)
      · obtain rfl : p = x := by omega
        simp +contextual -implicitDefEqProofs only [hx, iL, rD_len, D.put, D.cells, D.size, D.isAg, D.sub, modeOf, noPtrs, bne, bN, Bool.true_and, Bool.false_and, bU, Bool.or_true, Bool.or_false, go_sem, ↓reduceIte, Nat.reduceEqDiff, Nat.reduceAdd, Nat.reduceLeDiff, Nat.reduceMul, Nat.reduceBEq, Nat.reduceLT]
        refine ⟨rfl, ⟨by rw [tabL_len]; omega, by rw [tabL_len]; unfold maxEl; omega, by simp [D.size]⟩, i + 1, by omega, by omega, ?_⟩
        rw [wrap_i64 (by omega) (by omega)]
        exact Ent.to [] (by simp only [go_sem]; rfl) rfl (by simp [nnI, tabL_succ, aSt]) (by rfl) (by simp only [subEnv, go_sem, ↓reduceIte, Nat.reduceEqDiff] <;> simp)
    · obtain rfl : A = i := by omega
      simp +contextual -implicitDefEqProofs only [hi, iL, D.put, D.size, D.sizeL, D.isAg, D.sub, modeOf, noPtrs, Bool.true_and, bU, Bool.and_false, go_sem, ↓reduceIte, Nat.reduceEqDiff, Nat.reduceAdd, Nat.reduceLeDiff, Nat.reduceLT]
end Go.Ax
namespace Go.Ax
theorem okMo_pts {m : Mo} (h : okMo m = true) : 1 ≤ m.2.1 ∧ m.2.1 ≤ 8 := by
 simp only [okMo, testsOk, bA, isIn, decide_eq_true_eq] at h
 exact h.1.2.1

end Go.Ax
namespace Go.Ax
set_option maxHeartbeats 4000000
abbrev Wd := SL Int × SL (SL Int)
def allIn (lo hi : Int) (l : List Int) : Bool := l.all fun x => isIn x lo hi
def rowOk (n : Int) (r : SL Int) : Bool := lenIs n r && allIn (-1) (n - 1) r.2
def atomsOf (g : Int × Int) : Int := 2 ^ g.1.toNat
def okW (g : Int × Int) (w : Wd) : Bool := isIn w.1.2.length 1 12 && (allIn 0 (atomsOf g - 1) w.1.2 && (lenIs g.2 w.2 && w.2.2.all (rowOk w.1.2.length)))
def k_inRange (f1 : Nat) : RC := (.seq (.reg false [⟨none, .mv 4 (.c (.sc (.bool false)))⟩]) ((.seq ((.seq (.reg false [⟨none, .mv 7 (.t 0)⟩, ⟨none, .len 8 (.t 7)⟩, ⟨none, .mv 9 (.c (.sc (.int .i64 0)))⟩]) (.blk 0 (.loop ((.seq (.reg false [⟨none, .bin 10 .lss (.t 9) (.t 8)⟩]) ((.seq (.cond (.t 10) (.skip) (.exit 0)) ((.seq (.blk 1 ((.seq (.reg false [⟨none, .ia 11 1 (.t 7) (.t 9)⟩, ⟨none, .ld 12 false 1 (.t 11)⟩, ⟨none, .mv 6 (.t 12)⟩]) ((.seq (.reg false [⟨none, .mv 13 (.t 6)⟩, ⟨none, .mv 14 (.t 1)⟩, ⟨none, .bin 15 .sub (.t 14) (.c (.sc (.int .i64 1)))⟩, ⟨none, .call (some 16) f1 [(.t 13), (.c (.sc (.int .i64 0))), (.t 15)]⟩, ⟨none, .un 17 .not (.t 16)⟩]) (.cond (.t 17) ((.seq (.reg false [⟨none, .mv 4 (.c (.sc (.bool false)))⟩]) (.ret))) (.skip))))))) (.reg false [⟨none, .bin 18 .add (.t 9) (.c (.sc (.int .i64 1)))⟩, ⟨none, .mv 9 (.t 18)⟩]))))))))))) ((.seq (.reg false [⟨none, .mv 4 (.c (.sc (.bool true)))⟩]) (.ret))))))
def K_inRange (P : Program) (f : Nat) : Prop := ∀ (s : SL Int) (n : Int) (h1 : 0 ≤ n) (h2 : n ≤ 1048576), AF P f [eS 1 eI s, eI n] (.own (eB (allIn 0 (n - 1) s.2)))
theorem a_inRange {P : Program} (hm : P.follows .mixedOrders = true) {g f1 : Nat} (hr : resF P g = some (19, k_inRange f1, [.t 4])) (hc1 : K_within P f1) : K_inRange P g := by
 intro s n h1 h2
 refine af_of_res hr hm rfl fun hb => ?_
 have hl := bd_ls hb.1
 simp only [lM] at hl
 simp +contextual -implicitDefEqProofs only [k_inRange, eS, lM, go_sem, eI, eB, ↓reduceIte, Nat.reduceEqDiff, Nat.reduceAdd]
 refine vc_on (α := Nat) [4, 6, 9, 10, 11, 12, 13, 14, 15, 16, 17, 18] (fun i => [(9, .im none (.sc (.int .i64 i)))]) (fun i => i ≤ s.2.length ∧ (s.2.take i).all ((fun x => isIn x 0 (n - 1))) = true) (fun i => s.2.length - i) 0 (by simp only [subEnv, go_sem, ↓reduceIte]; simp) ⟨Nat.zero_le _, rfl⟩ ?_
 rintro i ⟨j1, j2⟩
 by_cases hi : i < s.2.length
 ·have e1 := at_map (f := eI) hi
  simp +contextual -implicitDefEqProofs only [e1, hi, iL, lM, iN, go_sem, eI, ↓reduceIte, Nat.reduceEqDiff, Nat.reduceLeDiff, Nat.reduceLT]
  rw [wrap_i64 (by omega) (by omega)]
  refine callQ_self ?_ (hc1 s.2[i] 0 (n - 1)) ?_
  ·exact rfl
  cases hx : isIn s.2[i] 0 (n - 1)
  ·simp +contextual -implicitDefEqProofs only [bN, go_sem, eB, ↓reduceIte]
   exact D.Le.sc_eq (by simp only [allIn]; rw [all_fail hi hx])
  ·simp +contextual -implicitDefEqProofs only [bT, go_sem, eB, ↓reduceIte, Nat.reduceEqDiff]
   rw [wrap_i64 (by omega) (by omega)]
   exact ⟨i + 1, ⟨by omega, all_take_succ hi j2 hx⟩, by omega, Ent.env (by simp only [subEnv, go_sem, ↓reduceIte, Nat.reduceEqDiff]; simp)⟩
 ·simp +contextual -implicitDefEqProofs only [hi, iL, go_sem, ↓reduceIte, Nat.reduceEqDiff]
  exact D.Le.sc_eq (by simp only [allIn]; rw [all_of_take hi j2])

end Go.Ax
namespace Go.Ax
set_option maxRecDepth 20000
set_option maxHeartbeats 4000000

def ascI (l : List Int) (n : Nat) : Bool := (List.range n).all fun i => decide (l.getD i 0 < l.getD (i + 1) 0)
def asc (l : List Int) : Bool := ascI l (l.length - 1)
theorem ascI_succ {l : List Int} {n : Nat} : ascI l (n + 1) = (ascI l n && decide (l.getD n 0 < l.getD (n + 1) 0)) := by
 simp [ascI, List.range_succ]
theorem ascI_false {l : List Int} {n m : Nat} (h : ascI l n = false) (hm : n ≤ m) : ascI l m = false := by
 rw [ascI, List.all_eq_false] at h ⊢
 obtain ⟨x, hx, h⟩ := h
 exact ⟨x, List.mem_range.2 (by have := List.mem_range.1 hx; omega), h⟩
def isSetB (p : Int) (l : List Int) : Bool := asc l && allIn 0 (p - 1) l
theorem getD_at {α : Type} {l : List α} {i : Nat} {d : α} (h : i < l.length) : l.getD i d = l[i] := by simp [h]
theorem at_mapD {α : Type} {f : α → D} {l : List α} {i : Nat} {d : α} (h : i < l.length) : D.at (l.map f) i = f (l.getD i d) := by rw [at_map h, getD_at h]
theorem wrap_pred {i : Nat} (h : 1 ≤ i) (h2 : i ≤ 9223372036854775807) : IntKind.i64.wrap ((i : Int) - 1) = ((i - 1 : Nat) : Int) := by rw [wrap_i64 (by omega) (by omega)]; omega

def k_ascending : RC := (.seq (.reg false [⟨none, .mv 2 (.c (.sc (.bool false)))⟩]) ((.seq ((.seq (.reg false [⟨none, .mv 3 (.c (.sc (.int .i64 1)))⟩]) (.blk 0 (.loop ((.seq ((.seq (.reg false [⟨none, .mv 4 (.t 3)⟩, ⟨none, .mv 5 (.t 0)⟩, ⟨none, .len 6 (.t 5)⟩, ⟨none, .bin 7 .lss (.t 4) (.t 6)⟩]) (.cond (.t 7) (.skip) (.exit 0)))) ((.seq (.blk 1 ((.seq (.reg true [⟨none, .mv 10 (.t 0)⟩, ⟨none, .mv 11 (.t 3)⟩, ⟨none, .ia 12 1 (.t 10) (.t 11)⟩, ⟨none, .ld 13 false 1 (.t 12)⟩, ⟨none, .mv 14 (.t 0)⟩, ⟨none, .mv 15 (.t 3)⟩, ⟨none, .bin 16 .sub (.t 15) (.c (.sc (.int .i64 1)))⟩, ⟨none, .ia 17 1 (.t 14) (.t 16)⟩, ⟨none, .ld 18 false 1 (.t 17)⟩, ⟨none, .bin 19 .leq (.t 13) (.t 18)⟩]) (.cond (.t 19) ((.seq (.reg false [⟨none, .mv 2 (.c (.sc (.bool false)))⟩]) (.ret))) (.skip))))) (.reg false [⟨none, .mv 8 (.t 3)⟩, ⟨none, .bin 9 .add (.t 8) (.c (.sc (.int .i64 1)))⟩, ⟨none, .mv 3 (.t 9)⟩]))))))))) ((.seq (.reg false [⟨none, .mv 2 (.c (.sc (.bool true)))⟩]) (.ret))))))
def K_ascending (P : Program) (fno : Nat) : Prop := ∀ (s : SL Int), AF P fno [eS 1 eI s] (.own (eB (asc s.2)))
theorem a_ascending {P : Program} (hm : P.follows .mixedOrders = true) {g : Nat} (hr : resF P g = some (20, k_ascending, [.t 2])) : K_ascending P g := by
 intro s
 refine af_of_res hr hm rfl fun hb => ?_
 have hl := bd_ls hb.1
 simp only [lM] at hl
 simp +contextual -implicitDefEqProofs only [k_ascending, eS, go_sem, eB, ↓reduceIte]
 refine vc_on (α := Nat) [2, 3, 4, 5, 6, 7, 8, 9, 10, 11, 12, 13, 14, 15, 16, 17, 18, 19] (fun i => [(3, .im none (.sc (.int .i64 i)))]) (fun i => 1 ≤ i ∧ ascI s.2 (i - 1) = true) (fun i => s.2.length - i) 1 (by simp only [subEnv, go_sem, ↓reduceIte] <;> simp) ⟨Nat.le_refl _, rfl⟩ ?_
 rintro i ⟨h1, h2⟩
 by_cases hi : i < s.2.length
 ·have w1 := wrap_pred h1 (by omega)
  have e1 := at_mapD (f := eI) (d := 0) hi
  have hi' : i - 1 < s.2.length := by omega
  have e2 := at_mapD (f := eI) (d := 0) hi'
  have hs := ascI_succ (l := s.2) (n := i - 1)
  rw [show i - 1 + 1 = i by omega, h2, Bool.true_and] at hs
  simp +contextual -implicitDefEqProofs only [hi, hi', e1, e2, w1, Int.toNat_natCast, go_sem, eI, ↓reduceIte, Nat.reduceEqDiff, Nat.reduceLeDiff, Nat.reduceLT, iL, lM, iN]
  refine ⟨fun h => D.Le.sc_eq ?_, fun h => ?_⟩
  ·have : ascI s.2 i = false := by rw [hs]; simpa using h
   rw [asc, ascI_false this (by omega)]
  ·rw [wrap_i64 (by omega) (by omega)]
   exact ⟨i + 1, ⟨by omega, by rw [Nat.add_sub_cancel, hs]; simpa using h⟩, by omega, Ent.env (by simp only [subEnv, go_sem, ↓reduceIte, Nat.reduceEqDiff] <;> simp)⟩
 ·simp +contextual -implicitDefEqProofs only [hi, go_sem, ↓reduceIte, Nat.reduceEqDiff, iL, lM]
  refine D.Le.sc_eq ?_
  congr 1
  unfold asc
  cases hh : ascI s.2 (s.2.length - 1) with
  | true => rfl
  | false => rw [ascI_false hh (by omega)] at h2; cases h2

def k_isSet (f1 f2 : Nat) : RC := (.seq (.reg false [⟨none, .box 2 5 (.t 0)⟩, ⟨none, .mv 4 (.c (.sc (.bool false)))⟩]) ((.seq (.reg false [⟨none, .mv 5 (.t 1)⟩, ⟨none, .call (some 6) f1 [(.t 5)]⟩, ⟨none, .mv 7 (.t 6)⟩, ⟨some (7, true), .mv 8 (.t 1)⟩, ⟨some (7, true), .fa 9 2 (.t 2)⟩, ⟨some (7, true), .ld 10 false 1 (.t 9)⟩, ⟨some (7, true), .call (some 11) f2 [(.t 8), (.t 10)]⟩, ⟨none, .pick 12 (.t 7) (.t 11) (.c (.sc (.bool false)))⟩, ⟨none, .mv 4 (.t 12)⟩]) (.ret))))
def K_isSet (P : Program) (fno : Nat) : Prop := ∀ (m : Mo) (s : SL Int) (hp : 0 ≤ m.2.1 ∧ m.2.1 ≤ 1048576), AF P fno [eM m, eS 1 eI s] (.own (eB (isSetB m.2.1 s.2)))
theorem a_isSet {P : Program} (hm : P.follows .mixedOrders = true) {g f1 f2 : Nat} (hr : resF P g = some (13, k_isSet f1 f2, [.t 4])) (hc1 : K_ascending P f1) (hc2 : K_inRange P f2) : K_isSet P g := by
 intro m s hp
 refine af_of_res hr hm rfl fun hb => ?_
 simp +contextual -implicitDefEqProofs only [k_isSet, eM, eS, go_sem, eI, eB, ↓reduceIte, Nat.reduceEqDiff, Nat.reduceAdd, Nat.reduceLT]
 refine callQ_self (ds := [eS 1 eI s]) (by rfl) (hc1 s) ?_
 cases h : asc s.2
 ·simp +contextual -implicitDefEqProofs only [isSetB, h, eB, Bool.false_and, go_sem, ↓reduceIte, Nat.reduceEqDiff]
 simp +contextual -implicitDefEqProofs only [isSetB, h, eB, Bool.true_and, go_sem, ↓reduceIte, Nat.reduceEqDiff, Nat.reduceAdd, Nat.reduceLeDiff, Nat.reduceLT]
 refine callQ_self (ds := [eS 1 eI s, eI m.2.1]) (by rfl) (hc2 s m.2.1 hp.1 hp.2) ?_
 simp +contextual -implicitDefEqProofs only [eB, go_sem, ↓reduceIte, Nat.reduceEqDiff]

def tRow (r : SL Bool) (l : List Int) : SL Bool := (some false, l.map fun x => r.2.getD x.toNat false)
def aTab (a : SL (SL Bool)) (l : List Int) : SL (SL Bool) := (some false, l.map fun x => tRow (a.2.getD x.toNat (none, [])) l)

def pickMo (m : Mo) (l : List Int) : Mo := (m.1, l.length, (nnL m.2.2.1.2, m.2.2.1.2.map fun r => tRow r l), (nnL m.2.2.2.2, m.2.2.2.2.map fun a => aTab a l))
def dRow (r : SL Bool) (l : List Int) : D := .ls (some false) 1 (l.map fun x => .sc (.bool (r.2.getD x.toNat false)))
def dTab (a : SL (SL Bool)) (l k : List Int) : D := .ls (some false) 1 (k.map fun x => dRow (a.2.getD x.toNat (none, [])) l)
structure PickOk (m : Mo) (l : List Int) : Prop where
 small : l.length ≤ 1000
 st : m.2.2.1.2.length ≤ 1000
 sa : m.2.2.2.2.length ≤ 1000
 nn : ∀ x ∈ l, 0 ≤ x
 t : ∀ r ∈ m.2.2.1.2, ∀ x ∈ l, x.toNat < r.2.length
 a : ∀ a ∈ m.2.2.2.2, ∀ x ∈ l, x.toNat < a.2.length
 b : ∀ a ∈ m.2.2.2.2, ∀ r ∈ a.2, ∀ x ∈ l, x.toNat < r.2.length
theorem dRow_eq {r : SL Bool} {l : List Int} : eS 1 eB (tRow r l) = dRow r l := by simp [eS, tRow, dRow, eB]
theorem dTab_eq {a : SL (SL Bool)} {l : List Int} : eS 1 (eS 1 eB) (aTab a l) = dTab a l l := by simp only [eS, aTab, dTab, ← dRow_eq, List.map_map, Function.comp_def]
theorem pick_eq {m : Mo} {l : List Int} : eM (pickMo m l) = .ag [.sc (.int .i64 m.1.1), .sc (.int .i64 m.1.2), .sc (.int .i64 l.length), .ls (nnL m.2.2.1.2) 1 (m.2.2.1.2.map fun r => dRow r l), .ls (nnL m.2.2.2.2) 1 (m.2.2.2.2.map fun a => dTab a l l)] := by
 simp [eM, eI, pickMo, eS, ← dRow_eq, ← dTab_eq]
theorem nat_lt_of {x : Int} {n : Nat} (h0 : 0 ≤ x) (h : x.toNat < n) : x < (n : Int) := by omega

def k_l05Pick : RC := (.seq (.reg false [⟨none, .zer 4 5 (.ag [(.sc (.int .i64 0)), (.sc (.int .i64 0)), (.sc (.int .i64 0)), (.ls (some true) 1 []), (.ls (some true) 1 [])])⟩]) ((.seq (.reg false [⟨none, .mv 14 (.t 0)⟩, ⟨none, .nck 15 (.t 14)⟩, ⟨none, .fa 16 0 (.t 15)⟩, ⟨none, .ld 17 true 2 (.t 16)⟩, ⟨none, .mv 18 (.t 1)⟩, ⟨none, .len 19 (.t 18)⟩, ⟨none, .bld 20 (.ag [(.sc (.int .i64 0)), (.sc (.int .i64 0)), (.sc (.int .i64 0)), (.ls (some true) 1 []), (.ls (some true) 1 [])]) [(0, 2, (.t 17)), (2, 1, (.t 19))]⟩, ⟨none, .zer 5 5 (.ag [(.sc (.int .i64 0)), (.sc (.int .i64 0)), (.sc (.int .i64 0)), (.ls (some true) 1 []), (.ls (some true) 1 [])])⟩, ⟨none, .st 5 (.t 5) (.t 20)⟩]) ((.seq ((.seq (.reg false [⟨none, .mv 6 (.c (.sc (.int .i64 0)))⟩]) (.blk 0 (.loop ((.seq ((.seq (.reg false [⟨none, .mv 21 (.t 6)⟩, ⟨none, .mv 22 (.t 0)⟩, ⟨none, .nck 23 (.t 22)⟩, ⟨none, .fa 24 3 (.t 23)⟩, ⟨none, .ld 25 false 1 (.t 24)⟩, ⟨none, .len 26 (.t 25)⟩, ⟨none, .bin 27 .lss (.t 21) (.t 26)⟩]) (.cond (.t 27) (.skip) (.exit 0)))) ((.seq (.blk 1 ((.seq (.reg false [⟨none, .bs 30 1 (.sc (.bool false)) 0 []⟩, ⟨none, .mv 7 (.t 30)⟩]) ((.seq ((.seq (.reg false [⟨none, .mv 8 (.c (.sc (.int .i64 0)))⟩]) (.blk 2 (.loop ((.seq ((.seq (.reg false [⟨none, .mv 31 (.t 8)⟩, ⟨none, .mv 32 (.t 1)⟩, ⟨none, .len 33 (.t 32)⟩, ⟨none, .bin 34 .lss (.t 31) (.t 33)⟩]) (.cond (.t 34) (.skip) (.exit 2)))) ((.seq (.blk 3 (.reg true [⟨none, .mv 37 (.t 7)⟩, ⟨none, .mv 38 (.t 0)⟩, ⟨none, .nck 39 (.t 38)⟩, ⟨none, .fa 40 3 (.t 39)⟩, ⟨none, .ld 41 false 1 (.t 40)⟩, ⟨none, .mv 42 (.t 6)⟩, ⟨none, .ia 43 1 (.t 41) (.t 42)⟩, ⟨none, .ld 44 false 1 (.t 43)⟩, ⟨none, .mv 45 (.t 1)⟩, ⟨none, .mv 46 (.t 8)⟩, ⟨none, .ia 47 1 (.t 45) (.t 46)⟩, ⟨none, .ld 48 false 1 (.t 47)⟩, ⟨none, .ia 49 1 (.t 44) (.t 48)⟩, ⟨none, .ld 50 false 1 (.t 49)⟩, ⟨none, .bs 51 1 (.sc (.bool false)) 1 [(0, (.t 50))]⟩, ⟨none, .app 52 1 1 (.t 37) (.t 51)⟩, ⟨none, .mv 7 (.t 52)⟩])) (.reg false [⟨none, .mv 35 (.t 8)⟩, ⟨none, .bin 36 .add (.t 35) (.c (.sc (.int .i64 1)))⟩, ⟨none, .mv 8 (.t 36)⟩]))))))))) (.reg false [⟨none, .fa 53 3 (.t 5)⟩, ⟨none, .ld 54 false 1 (.t 53)⟩, ⟨none, .mv 55 (.t 7)⟩, ⟨none, .bs 56 1 (.ls (some true) 1 []) 1 [(0, (.t 55))]⟩, ⟨none, .app 57 1 24 (.t 54) (.t 56)⟩, ⟨none, .fa 58 3 (.t 5)⟩, ⟨none, .st 1 (.t 58) (.t 57)⟩])))))) (.reg false [⟨none, .mv 28 (.t 6)⟩, ⟨none, .bin 29 .add (.t 28) (.c (.sc (.int .i64 1)))⟩, ⟨none, .mv 6 (.t 29)⟩]))))))))) ((.seq ((.seq (.reg false [⟨none, .mv 9 (.c (.sc (.int .i64 0)))⟩]) (.blk 4 (.loop ((.seq ((.seq (.reg false [⟨none, .mv 59 (.t 9)⟩, ⟨none, .mv 60 (.t 0)⟩, ⟨none, .nck 61 (.t 60)⟩, ⟨none, .fa 62 4 (.t 61)⟩, ⟨none, .ld 63 false 1 (.t 62)⟩, ⟨none, .len 64 (.t 63)⟩, ⟨none, .bin 65 .lss (.t 59) (.t 64)⟩]) (.cond (.t 65) (.skip) (.exit 4)))) ((.seq (.blk 5 ((.seq (.reg false [⟨none, .bs 68 1 (.ls (some true) 1 []) 0 []⟩, ⟨none, .mv 10 (.t 68)⟩]) ((.seq ((.seq (.reg false [⟨none, .mv 11 (.c (.sc (.int .i64 0)))⟩]) (.blk 6 (.loop ((.seq ((.seq (.reg false [⟨none, .mv 69 (.t 11)⟩, ⟨none, .mv 70 (.t 1)⟩, ⟨none, .len 71 (.t 70)⟩, ⟨none, .bin 72 .lss (.t 69) (.t 71)⟩]) (.cond (.t 72) (.skip) (.exit 6)))) ((.seq (.blk 7 ((.seq (.reg false [⟨none, .bs 75 1 (.sc (.bool false)) 0 []⟩, ⟨none, .mv 12 (.t 75)⟩]) ((.seq ((.seq (.reg false [⟨none, .mv 13 (.c (.sc (.int .i64 0)))⟩]) (.blk 8 (.loop ((.seq ((.seq (.reg false [⟨none, .mv 76 (.t 13)⟩, ⟨none, .mv 77 (.t 1)⟩, ⟨none, .len 78 (.t 77)⟩, ⟨none, .bin 79 .lss (.t 76) (.t 78)⟩]) (.cond (.t 79) (.skip) (.exit 8)))) ((.seq (.blk 9 (.reg true [⟨none, .mv 82 (.t 12)⟩, ⟨none, .mv 83 (.t 0)⟩, ⟨none, .nck 84 (.t 83)⟩, ⟨none, .fa 85 4 (.t 84)⟩, ⟨none, .ld 86 false 1 (.t 85)⟩, ⟨none, .mv 87 (.t 9)⟩, ⟨none, .ia 88 1 (.t 86) (.t 87)⟩, ⟨none, .ld 89 false 1 (.t 88)⟩, ⟨none, .mv 90 (.t 1)⟩, ⟨none, .mv 91 (.t 11)⟩, ⟨none, .ia 92 1 (.t 90) (.t 91)⟩, ⟨none, .ld 93 false 1 (.t 92)⟩, ⟨none, .ia 94 1 (.t 89) (.t 93)⟩, ⟨none, .ld 95 false 1 (.t 94)⟩, ⟨none, .mv 96 (.t 1)⟩, ⟨none, .mv 97 (.t 13)⟩, ⟨none, .ia 98 1 (.t 96) (.t 97)⟩, ⟨none, .ld 99 false 1 (.t 98)⟩, ⟨none, .ia 100 1 (.t 95) (.t 99)⟩, ⟨none, .ld 101 false 1 (.t 100)⟩, ⟨none, .bs 102 1 (.sc (.bool false)) 1 [(0, (.t 101))]⟩, ⟨none, .app 103 1 1 (.t 82) (.t 102)⟩, ⟨none, .mv 12 (.t 103)⟩])) (.reg false [⟨none, .mv 80 (.t 13)⟩, ⟨none, .bin 81 .add (.t 80) (.c (.sc (.int .i64 1)))⟩, ⟨none, .mv 13 (.t 81)⟩]))))))))) (.reg false [⟨none, .mv 104 (.t 10)⟩, ⟨none, .mv 105 (.t 12)⟩, ⟨none, .bs 106 1 (.ls (some true) 1 []) 1 [(0, (.t 105))]⟩, ⟨none, .app 107 1 24 (.t 104) (.t 106)⟩, ⟨none, .mv 10 (.t 107)⟩])))))) (.reg false [⟨none, .mv 73 (.t 11)⟩, ⟨none, .bin 74 .add (.t 73) (.c (.sc (.int .i64 1)))⟩, ⟨none, .mv 11 (.t 74)⟩]))))))))) (.reg false [⟨none, .fa 108 4 (.t 5)⟩, ⟨none, .ld 109 false 1 (.t 108)⟩, ⟨none, .mv 110 (.t 10)⟩, ⟨none, .bs 111 1 (.ls (some true) 1 []) 1 [(0, (.t 110))]⟩, ⟨none, .app 112 1 24 (.t 109) (.t 111)⟩, ⟨none, .fa 113 4 (.t 5)⟩, ⟨none, .st 1 (.t 113) (.t 112)⟩])))))) (.reg false [⟨none, .mv 66 (.t 9)⟩, ⟨none, .bin 67 .add (.t 66) (.c (.sc (.int .i64 1)))⟩, ⟨none, .mv 9 (.t 67)⟩]))))))))) ((.seq (.reg false [⟨none, .ld 114 true 5 (.t 5)⟩, ⟨none, .st 5 (.t 4) (.t 114)⟩]) (.ret))))))))))
def K_l05Pick (P : Program) (fno : Nat) : Prop := ∀ (m : Mo) (s : SL Int) (hp : PickOk m s.2), AF P fno [.pt (eM m) 0, eS 1 eI s] (.own (eM (pickMo m s.2)))
theorem a_l05Pick {P : Program} (hm : P.follows .mixedOrders = true) {g : Nat} (hr : resF P g = some (115, k_l05Pick, [.c 4 5 true])) : K_l05Pick P g := by
 intro m s hp
 refine af_of_res hr hm rfl fun hb => ?_
 simp +contextual -implicitDefEqProofs only [k_l05Pick, eM, eS, eI, D.put, D.cells, D.size, D.sizeL, D.isAg, modeOf, noPtrs, lM, D.at, D.sub, go_sem, ↓reduceIte, Nat.reduceEqDiff, Nat.reduceAdd, Nat.reduceLeDiff, Nat.reduceBEq, Nat.reduceBneDiff, Nat.reduceLT, Nat.reduceSub]
 refine vc_onU (α := Nat) [6, 7, 8, 21, 22, 23, 24, 25, 26, 27, 28, 29, 30, 31, 32, 33, 34, 35, 36, 37, 38, 39, 40, 41, 42, 43, 44, 45, 46, 47, 48, 49, 50, 51, 52, 53, 54, 55, 56, 57, 58] (fun i => [(6, .im none (.sc (.int .i64 i)))]) (fun i => [(5, .ar true (some false) 5 [.ag [.sc (.int .i64 m.1.1), .sc (.int .i64 m.1.2), .sc (.int .i64 s.2.length), .ls (nnL (m.2.2.1.2.take i)) 1 ((m.2.2.1.2.take i).map fun r => dRow r s.2), .ls (some true) 1 []]]), (4, .ar true (some false) 5 [.ag [.sc (.int .i64 0), .sc (.int .i64 0), .sc (.int .i64 0), .ls (some true) 1 [], .ls (some true) 1 []]])]) (fun i => i ≤ m.2.2.1.2.length) (fun i => m.2.2.1.2.length - i) 0 (Ent.to [] (by simp only [go_sem]; rfl) rfl (by simp [nnL]) (by rfl) (by simp only [subEnv, go_sem, ↓reduceIte, Nat.reduceEqDiff, keep, memN] <;> simp)) (Nat.zero_le _) ?_
 intro i hi0
 by_cases hi : i < m.2.2.1.2.length
 ·have e1 := at_map (f := eS 1 eB) hi
  have hmem : m.2.2.1.2[i] ∈ m.2.2.1.2 := List.getElem_mem hi
  simp +contextual -implicitDefEqProofs only [hi, D.size, D.sizeL, D.isAg, lM, go_sem, ↓reduceIte, Nat.reduceEqDiff, Nat.reduceAdd, Nat.reduceLeDiff, Nat.reduceBneDiff, Nat.reduceLT, iL]
  refine vc_onU (α := Nat) [7, 8, 30, 31, 32, 33, 34, 35, 36, 37, 38, 39, 40, 41, 42, 43, 44, 45, 46, 47, 48, 49, 50, 51, 52] (fun j => [(8, .im none (.sc (.int .i64 j))), (7, .sm 30 0 j)]) (fun j => [(30, .ar true (some false) 1 ((s.2.take j).map fun x => .sc (.bool (m.2.2.1.2[i].2.getD x.toNat false)))), (5, .ar true (some false) 5 [.ag [.sc (.int .i64 m.1.1), .sc (.int .i64 m.1.2), .sc (.int .i64 s.2.length), .ls (nnL (m.2.2.1.2.take i)) 1 ((m.2.2.1.2.take i).map fun r => dRow r s.2), .ls (some true) 1 []]]), (4, .ar true (some false) 5 [.ag [.sc (.int .i64 0), .sc (.int .i64 0), .sc (.int .i64 0), .ls (some true) 1 [], .ls (some true) 1 []]])]) (fun j => j ≤ s.2.length) (fun j => s.2.length - j) 0 (Ent.to [] (by simp only [go_sem]; rfl) rfl (by simp) (by rfl) (by simp only [subEnv, go_sem, ↓reduceIte, Nat.reduceEqDiff, keep, memN] <;> simp)) (Nat.zero_le _) ?_
  intro j hj0
  by_cases hj : j < s.2.length
  ·have e2 := at_mapD (f := eI) (d := 0) hj
   have hx0 := hp.nn _ (List.getElem_mem hj)
   have hx1 := hp.t _ hmem _ (List.getElem_mem hj)
   rw [← getD_at (d := (0 : Int)) hj] at hx0 hx1
   have hx2 := nat_lt_of hx0 hx1
   have e3 := at_mapD (f := eB) (d := false) hx1
   have hlen : (s.2.take j).length = j := by simp; omega
   simp +contextual -implicitDefEqProofs only [hj, e1, e2, e3, hi, hx0, hx2, hlen, eS, D.size, D.sizeL, D.isAg, modeOf, noPtrs, lM, go_sem, eI, eB, ↓reduceIte, Nat.reduceEqDiff, Nat.reduceAdd, Nat.reduceLeDiff, Nat.reduceMul, Nat.reduceBEq, Nat.reduceBneDiff, Nat.reduceLT, iL, iN]
   have hsm := hp.small
   refine ⟨rfl, ⟨by (try simp); omega, by unfold maxEl; (try simp); omega, by simp [D.size]⟩, j + 1, by omega, by omega, ?_⟩
   rw [wrap_i64 (by omega) (by omega)]
   exact Ent.to [] (by simp only [go_sem]; rfl) rfl (by simp [map_take hj, hj]) (by rfl) (by simp only [subEnv, go_sem, ↓reduceIte, Nat.reduceEqDiff] <;> simp)
  ·obtain rfl : j = s.2.length := by omega
   simp +contextual -implicitDefEqProofs only [hj, List.take_length, go_sem, ↓reduceIte, Nat.reduceEqDiff, Nat.reduceAdd, Nat.reduceLeDiff, Nat.reduceMul, Nat.reduceBEq, Nat.reduceBneDiff, Nat.reduceLT, iL, lM]
   have hsm := hp.st
   refine ⟨rfl, ⟨by (try simp); omega, by unfold maxEl; (try simp); omega, by simp [D.size]⟩, i + 1, by omega, by omega, ?_⟩
   rw [wrap_i64 (by omega) (by omega)]
   exact Ent.to [] (by simp only [go_sem]; rfl) rfl (by simp [nnL_take hi, map_take hi, dRow]) (by rfl) (by simp only [subEnv, go_sem, ↓reduceIte, Nat.reduceEqDiff] <;> simp)
 ·rw [List.take_of_length_le (show m.2.2.1.2.length ≤ i by omega)]
  simp +contextual -implicitDefEqProofs only [hi, go_sem, ↓reduceIte, Nat.reduceEqDiff, Nat.reduceAdd, Nat.reduceLeDiff, Nat.reduceLT, iL, lM]
  refine vc_onU (α := Nat) [9, 10, 11, 12, 13, 59, 60, 61, 62, 63, 64, 65, 66, 67, 68, 69, 70, 71, 72, 73, 74, 75, 76, 77, 78, 79, 80, 81, 82, 83, 84, 85, 86, 87, 88, 89, 90, 91, 92, 93, 94, 95, 96, 97, 98, 99, 100, 101, 102, 103, 104, 105, 106, 107, 108, 109, 110, 111, 112, 113] (fun i => [(9, .im none (.sc (.int .i64 i)))]) (fun i => [(5, .ar true (some false) 5 [.ag [.sc (.int .i64 m.1.1), .sc (.int .i64 m.1.2), .sc (.int .i64 s.2.length), .ls (nnL (m.2.2.1.2)) 1 ((m.2.2.1.2).map fun r => dRow r s.2), .ls (nnL (m.2.2.2.2.take i)) 1 ((m.2.2.2.2.take i).map fun a => dTab a s.2 s.2)]]), (4, .ar true (some false) 5 [.ag [.sc (.int .i64 0), .sc (.int .i64 0), .sc (.int .i64 0), .ls (some true) 1 [], .ls (some true) 1 []]])]) (fun i => i ≤ m.2.2.2.2.length) (fun i => m.2.2.2.2.length - i) 0 (Ent.to [] (by simp only [go_sem]; rfl) rfl (by simp [nnL]) (by rfl) (by simp only [subEnv, go_sem, ↓reduceIte, Nat.reduceEqDiff, keep, memN] <;> simp)) (Nat.zero_le _) ?_
  intro i hi0
  by_cases hi : i < m.2.2.2.2.length
  ·have e1 := at_map (f := eS 1 (eS 1 eB)) hi
   have hmem : m.2.2.2.2[i] ∈ m.2.2.2.2 := List.getElem_mem hi
   simp +contextual -implicitDefEqProofs only [hi, D.size, D.sizeL, D.isAg, lM, go_sem, ↓reduceIte, Nat.reduceEqDiff, Nat.reduceAdd, Nat.reduceLeDiff, Nat.reduceBneDiff, Nat.reduceLT, iL]
   refine vc_onU (α := Nat) [10, 11, 12, 13, 68, 69, 70, 71, 72, 73, 74, 75, 76, 77, 78, 79, 80, 81, 82, 83, 84, 85, 86, 87, 88, 89, 90, 91, 92, 93, 94, 95, 96, 97, 98, 99, 100, 101, 102, 103, 104, 105, 106, 107] (fun j => [(11, .im none (.sc (.int .i64 j))), (10, .sm 68 0 j)]) (fun j => [(68, .ar true (some false) 1 ((s.2.take j).map fun x => dRow (m.2.2.2.2[i].2.getD x.toNat (none, [])) s.2)), (5, .ar true (some false) 5 [.ag [.sc (.int .i64 m.1.1), .sc (.int .i64 m.1.2), .sc (.int .i64 s.2.length), .ls (nnL (m.2.2.1.2)) 1 ((m.2.2.1.2).map fun r => dRow r s.2), .ls (nnL (m.2.2.2.2.take i)) 1 ((m.2.2.2.2.take i).map fun a => dTab a s.2 s.2)]]), (4, .ar true (some false) 5 [.ag [.sc (.int .i64 0), .sc (.int .i64 0), .sc (.int .i64 0), .ls (some true) 1 [], .ls (some true) 1 []]])]) (fun j => j ≤ s.2.length) (fun j => s.2.length - j) 0 (Ent.to [] (by simp only [go_sem]; rfl) rfl (by simp) (by rfl) (by simp only [subEnv, go_sem, ↓reduceIte, Nat.reduceEqDiff, keep, memN] <;> simp)) (Nat.zero_le _) ?_
   intro j hj0
   by_cases hj : j < s.2.length
   ·have e2 := at_mapD (f := eI) (d := 0) hj
    have hx0 := hp.nn _ (List.getElem_mem hj)
    have hx1 := hp.a _ hmem _ (List.getElem_mem hj)
    rw [← getD_at (d := (0 : Int)) hj] at hx0 hx1
    have hx2 := nat_lt_of hx0 hx1
    have e3 := at_mapD (f := eS 1 eB) (d := (none, [])) hx1
    have hlen : (s.2.take j).length = j := by simp; omega
    have hmem2 : m.2.2.2.2[i].2.getD (s.2.getD j 0).toNat (none, []) ∈ m.2.2.2.2[i].2 := by rw [getD_at hx1]; exact List.getElem_mem hx1
    simp +contextual -implicitDefEqProofs only [hj, lM, go_sem, ↓reduceIte, Nat.reduceEqDiff, Nat.reduceBneDiff, Nat.reduceLT, iL]
    refine vc_onU (α := Nat) [12, 13, 75, 76, 77, 78, 79, 80, 81, 82, 83, 84, 85, 86, 87, 88, 89, 90, 91, 92, 93, 94, 95, 96, 97, 98, 99, 100, 101, 102, 103] (fun k => [(13, .im none (.sc (.int .i64 k))), (12, .sm 75 0 k)]) (fun k => [(75, .ar true (some false) 1 ((s.2.take k).map fun x => .sc (.bool ((m.2.2.2.2[i].2.getD (s.2.getD j 0).toNat (none, [])).2.getD x.toNat false)))), (68, .ar true (some false) 1 ((s.2.take j).map fun x => dRow (m.2.2.2.2[i].2.getD x.toNat (none, [])) s.2)), (5, .ar true (some false) 5 [.ag [.sc (.int .i64 m.1.1), .sc (.int .i64 m.1.2), .sc (.int .i64 s.2.length), .ls (nnL (m.2.2.1.2)) 1 ((m.2.2.1.2).map fun r => dRow r s.2), .ls (nnL (m.2.2.2.2.take i)) 1 ((m.2.2.2.2.take i).map fun a => dTab a s.2 s.2)]]), (4, .ar true (some false) 5 [.ag [.sc (.int .i64 0), .sc (.int .i64 0), .sc (.int .i64 0), .ls (some true) 1 [], .ls (some true) 1 []]])]) (fun k => k ≤ s.2.length) (fun k => s.2.length - k) 0 (Ent.to [] (by simp only [go_sem]; rfl) rfl (by simp) (by rfl) (by simp only [subEnv, go_sem, ↓reduceIte, Nat.reduceEqDiff, keep, memN] <;> simp)) (Nat.zero_le _) ?_
    intro k hk0
    by_cases hk : k < s.2.length
    ·have f2 := at_mapD (f := eI) (d := 0) hk
     have hy0 := hp.nn _ (List.getElem_mem hk)
     have hy1 := hp.b _ hmem _ hmem2 _ (List.getElem_mem hk)
     rw [← getD_at (d := (0 : Int)) hk] at hy0 hy1
     have hy2 := nat_lt_of hy0 hy1
     have f3 := at_mapD (f := eB) (d := false) hy1
     have hlen' : (s.2.take k).length = k := by simp; omega
     simp +contextual -implicitDefEqProofs only [hj, hk, e1, e2, e3, f2, f3, hi, hx0, hx2, hy0, hy2, hlen', eS, D.size, D.sizeL, D.isAg, modeOf, noPtrs, lM, go_sem, eI, eB, ↓reduceIte, Nat.reduceEqDiff, Nat.reduceAdd, Nat.reduceLeDiff, Nat.reduceMul, Nat.reduceBEq, Nat.reduceBneDiff, Nat.reduceLT, iL, iN]
     have hsm := hp.small
     refine ⟨rfl, ⟨by (try simp); omega, by unfold maxEl; (try simp); omega, by simp [D.size]⟩, k + 1, by omega, by omega, ?_⟩
     rw [wrap_i64 (by omega) (by omega)]
     exact Ent.to [] (by simp only [go_sem]; rfl) rfl (by simp [map_take hk, hk]) (by rfl) (by simp only [subEnv, go_sem, ↓reduceIte, Nat.reduceEqDiff] <;> simp)
    ·obtain rfl : k = s.2.length := by omega
     simp +contextual -implicitDefEqProofs only [hk, List.take_length, hlen, go_sem, ↓reduceIte, Nat.reduceEqDiff, Nat.reduceLeDiff, Nat.reduceMul, Nat.reduceBEq, Nat.reduceBneDiff, Nat.reduceLT, iL, lM]
     have hsm := hp.small
     refine ⟨rfl, ⟨by (try simp); omega, by unfold maxEl; (try simp); omega, by simp [D.size]⟩, j + 1, by omega, by omega, ?_⟩
     rw [wrap_i64 (by omega) (by omega)]
     exact Ent.to [] (by simp only [go_sem]; rfl) rfl (by simp [map_take hj, hj, dRow]) (by rfl) (by simp only [subEnv, go_sem, ↓reduceIte, Nat.reduceEqDiff] <;> simp)
   ·obtain rfl : j = s.2.length := by omega
    simp +contextual -implicitDefEqProofs only [hj, List.take_length, go_sem, ↓reduceIte, Nat.reduceEqDiff, Nat.reduceAdd, Nat.reduceLeDiff, Nat.reduceMul, Nat.reduceBEq, Nat.reduceBneDiff, Nat.reduceLT, iL, lM]
    have hsm := hp.sa
    refine ⟨rfl, ⟨by (try simp); omega, by unfold maxEl; (try simp); omega, by simp [D.size]⟩, i + 1, by omega, by omega, ?_⟩
    rw [wrap_i64 (by omega) (by omega)]
    exact Ent.to [] (by simp only [go_sem]; rfl) rfl (by simp [nnL_take hi, map_take hi, dTab]) (by rfl) (by simp only [subEnv, go_sem, ↓reduceIte, Nat.reduceEqDiff] <;> simp)
  ·rw [List.take_of_length_le (show m.2.2.2.2.length ≤ i by omega)]
   simp +contextual -implicitDefEqProofs only [hi, go_sem, ↓reduceIte, Nat.reduceEqDiff, Nat.reduceAdd, Nat.reduceLeDiff, Nat.reduceBEq, Nat.reduceLT, iL, lM]
   exact D.Le.of_eq (pick_eq (m := m) (l := s.2)).symm
theorem tab_map {α β : Type} {l : List α} {d : α} {f : α → β} : tabL l.length (fun i => f (l.getD i d)) = l.map f := by
 unfold tabL
 apply List.ext_getElem
 ·simp
 ·intro i h1 h2
  simp at h1
  simp [h1]
theorem aTab_tab {a : SL (SL Bool)} {l : List Int} : (some false, tabL l.length fun x => (some false, tabL l.length fun y => (a.2.getD (l.getD x 0).toNat (none, [])).2.getD (l.getD y 0).toNat false)) = aTab a l := by
 unfold aTab tRow
 refine Prod.ext rfl ?_
 refine (tab_map (f := fun (x : Int) => (some false, tabL l.length fun y => (a.2.getD x.toNat (none, [])).2.getD (l.getD y 0).toNat false))).trans ?_
 refine List.map_congr_left fun x _ => Prod.ext rfl ?_
 exact tab_map (f := fun (y : Int) => (a.2.getD x.toNat (none, [])).2.getD y.toNat false)

def k_chosen1 : RC := (.seq (.reg false [⟨none, .mv 6 (.c (.sc (.bool false)))⟩]) ((.seq (.reg true [⟨none, .ld 7 false 1 (.t 2)⟩, ⟨none, .ld 8 false 1 (.t 3)⟩, ⟨none, .mv 9 (.t 0)⟩, ⟨none, .ia 10 1 (.t 8) (.t 9)⟩, ⟨none, .ld 11 false 1 (.t 10)⟩, ⟨none, .ia 12 1 (.t 7) (.t 11)⟩, ⟨none, .ld 13 false 1 (.t 12)⟩, ⟨none, .ld 14 false 1 (.t 3)⟩, ⟨none, .mv 15 (.t 1)⟩, ⟨none, .ia 16 1 (.t 14) (.t 15)⟩, ⟨none, .ld 17 false 1 (.t 16)⟩, ⟨none, .ia 18 1 (.t 13) (.t 17)⟩, ⟨none, .ld 19 false 1 (.t 18)⟩, ⟨none, .mv 6 (.t 19)⟩]) (.ret))))
def K_chosen1 (P : Program) (fno : Nat) : Prop := ∀ (a : SL (SL Bool)) (s : SL Int) (x y : Nat) (hx : x < s.2.length) (hy : y < s.2.length) (hx0 : 0 ≤ s.2.getD x 0) (hx1 : (s.2.getD x 0).toNat < a.2.length) (hy0 : 0 ≤ s.2.getD y 0) (hy1 : (s.2.getD y 0).toNat < (a.2.getD (s.2.getD x 0).toNat (none, [])).2.length), AF P fno [eI x, eI y, .pt (eS 1 (eS 1 eB) a) 0, .pt (eS 1 eI s) 0] (.own (eB ((a.2.getD (s.2.getD x 0).toNat (none, [])).2.getD (s.2.getD y 0).toNat false)))
theorem a_chosen1 {P : Program} (hm : P.follows .mixedOrders = true) {g : Nat} (hr : resF P g = some (20, k_chosen1, [.t 6])) : K_chosen1 P g := by
 intro a s x y hx hy hx0 hx1 hy0 hy1
 refine af_of_res hr hm rfl fun hb => ?_
 have e1 := at_mapD (f := eI) (d := 0) hx
 have e2 := at_mapD (f := eI) (d := 0) hy
 have hx2 := nat_lt_of hx0 hx1
 have hy2 := nat_lt_of hy0 hy1
 have e3 := at_mapD (f := eS 1 eB) (d := (none, [])) hx1
 have e4 := at_mapD (f := eB) (d := false) hy1
 simp +contextual -implicitDefEqProofs only [k_chosen1, eS, e1, e2, e3, e4, hx, hy, hx0, hy0, hx2, hy2, D.size, go_sem, eI, eB, ↓reduceIte, Nat.reduceEqDiff, Nat.reduceAdd, Nat.reduceLeDiff, Nat.reduceLT, iL, lM, iN]

def k_chosen (f1 f2 : Nat) : RC := (.seq (.reg false [⟨none, .box 2 5 (.t 0)⟩, ⟨none, .box 3 1 (.t 1)⟩, ⟨none, .zer 4 5 (.ag [(.sc (.int .i64 0)), (.sc (.int .i64 0)), (.sc (.int .i64 0)), (.ls (some true) 1 []), (.ls (some true) 1 [])])⟩]) ((.seq (.reg false [⟨none, .fa 13 0 (.t 2)⟩, ⟨none, .ld 14 true 2 (.t 13)⟩, ⟨none, .ld 15 false 1 (.t 3)⟩, ⟨none, .len 16 (.t 15)⟩, ⟨none, .bld 17 (.ag [(.sc (.int .i64 0)), (.sc (.int .i64 0)), (.sc (.int .i64 0)), (.ls (some true) 1 []), (.ls (some true) 1 [])]) [(0, 2, (.t 14)), (2, 1, (.t 16))]⟩, ⟨none, .zer 5 5 (.ag [(.sc (.int .i64 0)), (.sc (.int .i64 0)), (.sc (.int .i64 0)), (.ls (some true) 1 []), (.ls (some true) 1 [])])⟩, ⟨none, .st 5 (.t 5) (.t 17)⟩]) ((.seq ((.seq (.reg false [⟨none, .fa 18 3 (.t 2)⟩, ⟨none, .ld 19 false 1 (.t 18)⟩, ⟨none, .len 20 (.t 19)⟩, ⟨none, .mv 21 (.c (.sc (.int .i64 0)))⟩]) (.blk 0 (.loop ((.seq (.reg false [⟨none, .bin 22 .lss (.t 21) (.t 20)⟩]) ((.seq (.cond (.t 22) (.skip) (.exit 0)) ((.seq (.blk 1 ((.seq (.reg false [⟨none, .ia 23 1 (.t 19) (.t 21)⟩, ⟨none, .ld 24 false 1 (.t 23)⟩, ⟨none, .mv 7 (.t 24)⟩]) ((.seq (.reg false [⟨none, .bs 25 1 (.sc (.bool false)) 0 []⟩, ⟨none, .mv 8 (.t 25)⟩]) ((.seq ((.seq (.reg false [⟨none, .ld 26 false 1 (.t 3)⟩, ⟨none, .len 27 (.t 26)⟩, ⟨none, .mv 28 (.c (.sc (.int .i64 0)))⟩]) (.blk 2 (.loop ((.seq (.reg false [⟨none, .bin 29 .lss (.t 28) (.t 27)⟩]) ((.seq (.cond (.t 29) (.skip) (.exit 2)) ((.seq (.blk 3 ((.seq (.reg false [⟨none, .ia 30 1 (.t 26) (.t 28)⟩, ⟨none, .ld 31 false 1 (.t 30)⟩, ⟨none, .mv 10 (.t 31)⟩]) (.reg false [⟨none, .mv 32 (.t 8)⟩, ⟨none, .mv 33 (.t 7)⟩, ⟨none, .mv 34 (.t 10)⟩, ⟨none, .ia 35 1 (.t 33) (.t 34)⟩, ⟨none, .ld 36 false 1 (.t 35)⟩, ⟨none, .bs 37 1 (.sc (.bool false)) 1 [(0, (.t 36))]⟩, ⟨none, .app 38 1 1 (.t 32) (.t 37)⟩, ⟨none, .mv 8 (.t 38)⟩])))) (.reg false [⟨none, .bin 39 .add (.t 28) (.c (.sc (.int .i64 1)))⟩, ⟨none, .mv 28 (.t 39)⟩]))))))))))) (.reg false [⟨none, .fa 40 3 (.t 5)⟩, ⟨none, .ld 41 false 1 (.t 40)⟩, ⟨none, .mv 42 (.t 8)⟩, ⟨none, .bs 43 1 (.ls (some true) 1 []) 1 [(0, (.t 42))]⟩, ⟨none, .app 44 1 24 (.t 41) (.t 43)⟩, ⟨none, .fa 45 3 (.t 5)⟩, ⟨none, .st 1 (.t 45) (.t 44)⟩])))))))) (.reg false [⟨none, .bin 46 .add (.t 21) (.c (.sc (.int .i64 1)))⟩, ⟨none, .mv 21 (.t 46)⟩]))))))))))) ((.seq ((.seq (.reg false [⟨none, .fa 47 4 (.t 2)⟩, ⟨none, .ld 48 false 1 (.t 47)⟩, ⟨none, .len 49 (.t 48)⟩, ⟨none, .mv 50 (.c (.sc (.int .i64 0)))⟩]) (.blk 4 (.loop ((.seq (.reg false [⟨none, .bin 51 .lss (.t 50) (.t 49)⟩]) ((.seq (.cond (.t 51) (.skip) (.exit 4)) ((.seq (.blk 5 ((.seq (.reg false [⟨none, .ia 52 1 (.t 48) (.t 50)⟩, ⟨none, .ld 53 false 1 (.t 52)⟩, ⟨none, .zer 12 1 (.ls (some true) 1 [])⟩, ⟨none, .st 1 (.t 12) (.t 53)⟩]) (.reg true [⟨none, .fa 54 4 (.t 5)⟩, ⟨none, .ld 55 false 1 (.t 54)⟩, ⟨none, .fa 56 2 (.t 5)⟩, ⟨none, .ld 57 false 1 (.t 56)⟩, ⟨none, .mkf 58 f2 [(.t 12), (.t 3)]⟩, ⟨none, .call (some 59) f1 [(.t 57), (.t 58)]⟩, ⟨none, .bs 60 1 (.ls (some true) 1 []) 1 [(0, (.t 59))]⟩, ⟨none, .app 61 1 24 (.t 55) (.t 60)⟩, ⟨none, .fa 62 4 (.t 5)⟩, ⟨none, .st 1 (.t 62) (.t 61)⟩])))) (.reg false [⟨none, .bin 63 .add (.t 50) (.c (.sc (.int .i64 1)))⟩, ⟨none, .mv 50 (.t 63)⟩]))))))))))) ((.seq (.reg false [⟨none, .ld 64 true 5 (.t 5)⟩, ⟨none, .st 5 (.t 4) (.t 64)⟩]) (.ret))))))))))
def K_chosen (P : Program) (fno : Nat) : Prop := ∀ (m : Mo) (s : SL Int) (hp : PickOk m s.2), AF P fno [eM m, eS 1 eI s] (.own (eM (pickMo m s.2)))
theorem a_chosen {P : Program} (hm : P.follows .mixedOrders = true) {g f1 f2 : Nat} (hr : resF P g = some (65, k_chosen f1 f2, [.c 4 5 true])) (hc1 : K_tableB P f1) (hc2 : K_chosen1 P f2) : K_chosen P g := by
 intro m s hp
 refine af_of_res hr hm rfl fun hb => ?_
 simp +contextual -implicitDefEqProofs only [k_chosen, eM, eS, eI, D.put, D.cells, D.size, D.sizeL, D.isAg, modeOf, noPtrs, lM, D.at, D.sub, go_sem, ↓reduceIte, Nat.reduceEqDiff, Nat.reduceAdd, Nat.reduceLeDiff, Nat.reduceBEq, Nat.reduceBneDiff, Nat.reduceLT, Nat.reduceSub]
 refine vc_onU (α := Nat) [7, 8, 10, 21, 22, 23, 24, 25, 26, 27, 28, 29, 30, 31, 32, 33, 34, 35, 36, 37, 38, 39, 40, 41, 42, 43, 44, 45, 46] (fun i => [(21, .im none (.sc (.int .i64 i)))]) (fun i => [(5, .ar true (some false) 5 [.ag [.sc (.int .i64 m.1.1), .sc (.int .i64 m.1.2), .sc (.int .i64 s.2.length), .ls (nnL (m.2.2.1.2.take i)) 1 ((m.2.2.1.2.take i).map fun r => dRow r s.2), .ls (some true) 1 []]]), (4, .ar true (some false) 5 [.ag [.sc (.int .i64 0), .sc (.int .i64 0), .sc (.int .i64 0), .ls (some true) 1 [], .ls (some true) 1 []]]), (3, .ar false (some false) 1 [.ls s.1 1 (s.2.map eI)]), (2, .ar false (some false) 5 [.ag [.sc (.int .i64 m.1.1), .sc (.int .i64 m.1.2), .sc (.int .i64 m.2.1), .ls m.2.2.1.1 1 (m.2.2.1.2.map (eS 1 eB)), .ls m.2.2.2.1 1 (m.2.2.2.2.map (eS 1 (eS 1 eB)))]])]) (fun i => i ≤ m.2.2.1.2.length) (fun i => m.2.2.1.2.length - i) 0 (Ent.to [] (by simp only [go_sem]; rfl) rfl (by simp [nnL]) (by rfl) (by simp only [subEnv, go_sem, ↓reduceIte, Nat.reduceEqDiff, keep, memN] <;> simp)) (Nat.zero_le _) ?_
 intro i hi0
 by_cases hi : i < m.2.2.1.2.length
 ·have e1 := at_map (f := eS 1 eB) hi
  have hmem : m.2.2.1.2[i] ∈ m.2.2.1.2 := List.getElem_mem hi
  simp +contextual -implicitDefEqProofs only [hi, e1, eS, D.size, D.isAg, lM, go_sem, ↓reduceIte, Nat.reduceEqDiff, Nat.reduceLeDiff, Nat.reduceBneDiff, Nat.reduceLT, iL, iN]
  refine vc_onU (α := Nat) [8, 10, 25, 28, 29, 30, 31, 32, 33, 34, 35, 36, 37, 38, 39] (fun j => [(28, .im none (.sc (.int .i64 j))), (8, .sm 25 0 j)]) (fun j => [(25, .ar true (some false) 1 ((s.2.take j).map fun x => .sc (.bool (m.2.2.1.2[i].2.getD x.toNat false)))), (5, .ar true (some false) 5 [.ag [.sc (.int .i64 m.1.1), .sc (.int .i64 m.1.2), .sc (.int .i64 s.2.length), .ls (nnL (m.2.2.1.2.take i)) 1 ((m.2.2.1.2.take i).map fun r => dRow r s.2), .ls (some true) 1 []]]), (4, .ar true (some false) 5 [.ag [.sc (.int .i64 0), .sc (.int .i64 0), .sc (.int .i64 0), .ls (some true) 1 [], .ls (some true) 1 []]]), (3, .ar false (some false) 1 [.ls s.1 1 (s.2.map eI)]), (2, .ar false (some false) 5 [.ag [.sc (.int .i64 m.1.1), .sc (.int .i64 m.1.2), .sc (.int .i64 m.2.1), .ls m.2.2.1.1 1 (m.2.2.1.2.map (eS 1 eB)), .ls m.2.2.2.1 1 (m.2.2.2.2.map (eS 1 (eS 1 eB)))]])]) (fun j => j ≤ s.2.length) (fun j => s.2.length - j) 0 (Ent.to [] (by simp only [go_sem]; rfl) rfl (by simp) (by rfl) (by simp only [subEnv, go_sem, ↓reduceIte, Nat.reduceEqDiff, keep, memN] <;> simp)) (Nat.zero_le _) ?_
  intro j hj0
  by_cases hj : j < s.2.length
  ·have e2 := at_mapD (f := eI) (d := 0) hj
   have hx0 := hp.nn _ (List.getElem_mem hj)
   have hx1 := hp.t _ hmem _ (List.getElem_mem hj)
   rw [← getD_at (d := (0 : Int)) hj] at hx0 hx1
   have hx2 := nat_lt_of hx0 hx1
   have e3 := at_mapD (f := eB) (d := false) hx1
   have hlen : (s.2.take j).length = j := by simp; omega
   simp +contextual -implicitDefEqProofs only [hj, e2, e3, hx0, hx2, hlen, D.size, D.isAg, modeOf, noPtrs, lM, go_sem, eI, eB, ↓reduceIte, Nat.reduceEqDiff, Nat.reduceLeDiff, Nat.reduceMul, Nat.reduceBEq, Nat.reduceBneDiff, Nat.reduceLT, iL, iN]
   have hsm := hp.small
   refine ⟨rfl, ⟨by (try simp); omega, by unfold maxEl; (try simp); omega, by simp [D.size]⟩, j + 1, by omega, by omega, ?_⟩
   rw [wrap_i64 (by omega) (by omega)]
   exact Ent.to [] (by simp only [go_sem]; rfl) rfl (by simp [map_take hj, hj]) (by rfl) (by simp only [subEnv, go_sem, ↓reduceIte, Nat.reduceEqDiff] <;> simp)
  ·obtain rfl : j = s.2.length := by omega
   simp +contextual -implicitDefEqProofs only [hj, List.take_length, go_sem, ↓reduceIte, Nat.reduceEqDiff, Nat.reduceAdd, Nat.reduceLeDiff, Nat.reduceMul, Nat.reduceBEq, Nat.reduceBneDiff, Nat.reduceLT, iL, lM]
   have hsm := hp.st
   refine ⟨rfl, ⟨by (try simp); omega, by unfold maxEl; (try simp); omega, by simp [D.size]⟩, i + 1, by omega, by omega, ?_⟩
   rw [wrap_i64 (by omega) (by omega)]
   exact Ent.to [] (by simp only [go_sem]; rfl) rfl (by simp [nnL_take hi, map_take hi, dRow]) (by rfl) (by simp only [subEnv, go_sem, ↓reduceIte, Nat.reduceEqDiff] <;> simp)
 ·rw [List.take_of_length_le (show m.2.2.1.2.length ≤ i by omega)]
  simp +contextual -implicitDefEqProofs only [hi, D.at, D.sub, D.isAg, lM, go_sem, ↓reduceIte, Nat.reduceEqDiff, Nat.reduceAdd, Nat.reduceLeDiff, Nat.reduceLT, iL]
  refine vc_onU (α := Nat) [12, 50, 51, 52, 53, 54, 55, 56, 57, 59, 60, 61, 62, 63] (fun i => [(50, .im none (.sc (.int .i64 i)))]) (fun i => [(5, .ar true (some false) 5 [.ag [.sc (.int .i64 m.1.1), .sc (.int .i64 m.1.2), .sc (.int .i64 s.2.length), .ls (nnL (m.2.2.1.2)) 1 ((m.2.2.1.2).map fun r => dRow r s.2), .ls (nnL (m.2.2.2.2.take i)) 1 ((m.2.2.2.2.take i).map fun a => dTab a s.2 s.2)]]), (4, .ar true (some false) 5 [.ag [.sc (.int .i64 0), .sc (.int .i64 0), .sc (.int .i64 0), .ls (some true) 1 [], .ls (some true) 1 []]]), (3, .ar false (some false) 1 [.ls s.1 1 (s.2.map eI)]), (2, .ar false (some false) 5 [.ag [.sc (.int .i64 m.1.1), .sc (.int .i64 m.1.2), .sc (.int .i64 m.2.1), .ls m.2.2.1.1 1 (m.2.2.1.2.map (eS 1 eB)), .ls m.2.2.2.1 1 (m.2.2.2.2.map (eS 1 (eS 1 eB)))]])]) (fun i => i ≤ m.2.2.2.2.length) (fun i => m.2.2.2.2.length - i) 0 (Ent.to [] (by simp only [go_sem]; rfl) rfl (by simp [nnL]) (by rfl) (by simp only [subEnv, go_sem, ↓reduceIte, Nat.reduceEqDiff, keep, memN] <;> simp)) (Nat.zero_le _) ?_
  intro i hi0
  by_cases hi : i < m.2.2.2.2.length
  ·have e1 := at_map (f := eS 1 (eS 1 eB)) hi
   have hmem : m.2.2.2.2[i] ∈ m.2.2.2.2 := List.getElem_mem hi
   have hf : ∀ x y : Nat, x < s.2.length → y < s.2.length → AF P f2 (eI x :: eI y :: [.pt (eS 1 (eS 1 eB) m.2.2.2.2[i]) 0, .pt (eS 1 eI s) 0]) (.own (eB ((m.2.2.2.2[i].2.getD (s.2.getD x 0).toNat (none, [])).2.getD (s.2.getD y 0).toNat false))) := fun x y hx hy => by
    have gx := hp.nn _ (List.getElem_mem hx)
    have gx1 := hp.a _ hmem _ (List.getElem_mem hx)
    have gy := hp.nn _ (List.getElem_mem hy)
    rw [← getD_at (d := (0 : Int)) hx] at gx gx1
    have hmem2 : m.2.2.2.2[i].2.getD (s.2.getD x 0).toNat (none, []) ∈ m.2.2.2.2[i].2 := by rw [getD_at gx1]; exact List.getElem_mem gx1
    have gy1 := hp.b _ hmem _ hmem2 _ (List.getElem_mem hy)
    rw [← getD_at (d := (0 : Int)) hy] at gy gy1
    exact hc2 m.2.2.2.2[i] s x y hx hy gx gx1 gy gy1
   simp +contextual -implicitDefEqProofs only [hi, e1, eS, D.put, D.size, D.isAg, modeOf, noPtrs, lM, go_sem, ↓reduceIte, Nat.reduceEqDiff, Nat.reduceAdd, Nat.reduceLeDiff, Nat.reduceBEq, Nat.reduceBneDiff, Nat.reduceLT, iL, iN]
   refine callQ_self (ds := [eI s.2.length, .fn f2 [.pt (eS 1 (eS 1 eB) m.2.2.2.2[i]) 0, .pt (eS 1 eI s) 0]]) (by rfl) (hc1 s.2.length f2 _ (fun x y => (m.2.2.2.2[i].2.getD (s.2.getD x 0).toNat (none, [])).2.getD (s.2.getD y 0).toNat false) hp.small hf) ?_
   rw [aTab_tab, dTab_eq]
   simp +contextual -implicitDefEqProofs only [dTab, D.put, D.cells, D.size, D.isAg, modeOf, noPtrs, lM, go_sem, ↓reduceIte, Nat.reduceEqDiff, Nat.reduceAdd, Nat.reduceLeDiff, Nat.reduceMul, Nat.reduceBEq, Nat.reduceBneDiff, Nat.reduceLT]
   have hsm := hp.sa
   refine ⟨rfl, ⟨by (try simp); omega, by unfold maxEl; (try simp); omega, by simp [D.size]⟩, i + 1, by omega, by omega, ?_⟩
   rw [wrap_i64 (by omega) (by omega)]
   exact Ent.to [12] (by simp only [go_sem, ↓reduceIte, Nat.reduceEqDiff, Nat.reduceBEq]; rfl) rfl (by simp [nnL_take hi, map_take hi]) (by rfl) (by simp only [subEnv, go_sem, ↓reduceIte, Nat.reduceEqDiff] <;> simp)
  ·rw [List.take_of_length_le (show m.2.2.2.2.length ≤ i by omega)]
   simp +contextual -implicitDefEqProofs only [hi, D.at, D.sub, D.put, D.size, D.sizeL, D.isAg, modeOf, noPtrs, go_sem, ↓reduceIte, Nat.reduceEqDiff, Nat.reduceAdd, Nat.reduceLeDiff, Nat.reduceBEq, Nat.reduceLT, iL]
   exact D.Le.of_eq (pick_eq (m := m) (l := s.2)).symm
def zMo : Mo := ((0, 0), 0, (some true, []), (some true, []))

theorem isIn_iff {x lo hi : Int} : isIn x lo hi = true ↔ lo ≤ x ∧ x ≤ hi := by simp [isIn]
theorem asc_ge {l : List Int} (h0 : 0 ≤ l.getD 0 0) : ∀ n, ascI l n = true → (n : Int) ≤ l.getD n 0
 | 0, _ => h0
 | n + 1, h => by
  rw [ascI_succ, bA, decide_eq_true_eq] at h
  have := asc_ge h0 n h.1
  omega
theorem set_len {p : Int} {l : List Int} (hp : 1 ≤ p) (h : isSetB p l = true) : (l.length : Int) ≤ p := by
 simp only [isSetB, allIn, bA, List.all_eq_true] at h
 by_cases h0 : l = []
 ·subst h0; simp; omega
 ·have hl : 0 < l.length := List.length_pos_iff.2 h0
  have a0 := isIn_iff.1 (h.2 _ (List.getElem_mem hl))
  have a1 := isIn_iff.1 (h.2 _ (List.getElem_mem (show l.length - 1 < l.length by omega)))
  have := asc_ge (l := l) (by rw [getD_at hl]; omega) _ h.1
  rw [getD_at (by omega)] at this
  omega
theorem pick_ok {m : Mo} {l : List Int} (h : okMo m = true) (hs : isSetB m.2.1 l = true) : PickOk m l := by
 have hp := okMo_pts h
 have hl := set_len hp.1 hs
 simp only [isSetB, allIn, bA, List.all_eq_true] at hs
 simp only [okMo, testsOk, actsOk, okG, tabOk, bA, List.all_eq_true, isIn_iff, lenIs, beq_iff_eq] at h
 obtain ⟨⟨hg, _, ht, htr⟩, ha, har⟩ := h
 have hx : ∀ x ∈ l, 0 ≤ x ∧ x.toNat < m.2.1 := fun x hx => by
  have := isIn_iff.1 (hs.2 x hx)
  omega
 refine ⟨by omega, by omega, by omega, fun x h => (hx x h).1, fun r hr x h => ?_, fun a ha x h => ?_, fun a ha r hr x h => ?_⟩
 ·have := htr r hr; have := hx x h; omega
 ·have := (har a ha).1; have := hx x h; omega
 ·have := (har a ha).2 r hr; have := hx x h; omega

end Go.Ax
namespace Go.Ax
set_option maxRecDepth 20000
set_option maxHeartbeats 4000000
def testOf (m : Mo) (v : Int) (x : Nat) : Bool := (m.2.2.1.2.getD v.toNat (none, [])).2.getD x false
def actOf (m : Mo) (v : Int) : SL (SL Bool) := m.2.2.2.2.getD v.toNat (none, [])
def diagR (f : Nat → Bool) : Rel := fun x y => x == y && f x
def noneR : Rel := fun _ _ => false
def relOp (m : Mo) (k v : Int) (rs : List Rel) : Rel :=
 if k = 2 then diagR fun _ => true
 else if k = 3 then diagR (testOf m v)
 else if k = 4 then relOf (actOf m v)
 else if k = 5 then diagR fun x => !(rs.getD 0 noneR x x)
 else if k = 6 then fun x y => rs.getD 0 noneR x y || rs.getD 1 noneR x y
 else if k = 7 then dotR m.2.1.toNat (rs.getD 0 noneR) (rs.getD 1 noneR)
 else if k = 8 then starR m.2.1.toNat (rs.getD 0 noneR)
 else noneR
mutual

def relE (m : Mo) : Ex → Rel
 | .mk k v _ ks => relOp m k v (relEs m ks)
def relEs (m : Mo) : List Ex → List Rel
 | [] => []
 | e :: es => relE m e :: relEs m es
end
theorem relEs_map {m : Mo} : ∀ {ks : List Ex}, relEs m ks = ks.map (relE m)
 | [] => rfl
 | e :: es => by simp only [relEs, lC, relEs_map (ks := es)]
theorem relE_mk {m : Mo} {k v : Int} {nn : Option Bool} {ks : List Ex} : relE m (.mk k v nn ks) = relOp m k v (ks.map (relE m)) := by rw [relE, relEs_map]

structure MoOk (m : Mo) (n : Nat) : Prop where
 pts : m.2.1 = (n : Int)
 n1 : 1 ≤ n
 n8 : n ≤ 8
 g : okG m.1 = true
 tl : (m.2.2.1.2.length : Int) = m.1.1
 tr : ∀ r ∈ m.2.2.1.2, r.2.length = n
 al : (m.2.2.2.2.length : Int) = m.1.2
 asq : ∀ a ∈ m.2.2.2.2, Sq n a
theorem isIn_iff' {x lo hi : Int} : isIn x lo hi = true ↔ lo ≤ x ∧ x ≤ hi := by simp [isIn]
theorem okMo_ok {m : Mo} (h : okMo m = true) : ∃ n, MoOk m n := by
 have hp := okMo_pts h
 simp only [okMo, testsOk, actsOk, tabOk, bA, List.all_eq_true, lenIs, beq_iff_eq] at h
 obtain ⟨⟨hg, _, ht, htr⟩, ha, har⟩ := h
 exact ⟨m.2.1.toNat, by omega, by omega, by omega, hg, ht, fun r hr => by have := htr r hr; omega, ha, fun a hx => ⟨by have := (har a hx).1; omega, fun r hr => by have := (har a hx).2 r hr; omega⟩⟩
theorem nat_lt_of' {x : Int} {n : Nat} (h0 : 0 ≤ x) (h : x.toNat < n) : x < (n : Int) := by omega
theorem getD_mem {α : Type} {l : List α} {i : Nat} {d : α} (h : i < l.length) : l.getD i d ∈ l := by simp [h]

inductive KindOk (m : Mo) (k v : Int) (ks : List Ex) : Prop
 | zero (h : k = 1) (hk : ks = [])
 | one (h : k = 2) (hk : ks = [])
 | test (h : k = 3) (hk : ks = []) (h0 : 0 ≤ v) (h1 : v.toNat < m.2.2.1.2.length)
 | act (h : k = 4) (hk : ks = []) (h0 : 0 ≤ v) (h1 : v.toNat < m.2.2.2.2.length)
 | nt (h : k = 5) (a : Ex) (hk : ks = [a])
 | sum (h : k = 6) (a b : Ex) (hk : ks = [a, b])
 | dot (h : k = 7) (a b : Ex) (hk : ks = [a, b])
 | star (h : k = 8) (a : Ex) (hk : ks = [a])
theorem kind_ok {m : Mo} {n : Nat} (hM : MoOk m n) {k v : Int} {ks : List Ex} (h : formOk m.1 k v ks = true) : KindOk m k v ks := by
 have hg := hM.g
 have tl := hM.tl
 have al := hM.al
 simp only [okG, bA, isIn_iff'] at hg
 have hw1 : IntKind.i64.wrap (m.1.1 - 1) = m.1.1 - 1 := wrap_i64 (by omega) (by omega)
 have hw2 : IntKind.i64.wrap (m.1.2 - 1) = m.1.2 - 1 := wrap_i64 (by omega) (by omega)
 simp only [formOk, bA, beq_iff_eq, hw1, hw2] at h
 obtain ⟨hk, hv⟩ := h
 unfold kidsN at hk
 have e0 : ∀ {l : List Ex}, (0 : Int) = l.length → l = [] := fun h => List.eq_nil_of_length_eq_zero (by omega)
 have e1 : ∀ {l : List Ex}, (1 : Int) = l.length → ∃ a, l = [a] := fun {l} h => by
  match l, h with
  | [a], _ => exact ⟨a, rfl⟩
  | [], h => simp at h
  | _ :: _ :: _, h => simp at h; omega
 have e2 : ∀ {l : List Ex}, (2 : Int) = l.length → ∃ a b, l = [a, b] := fun {l} h => by
  match l, h with
  | [a, b], _ => exact ⟨a, b, rfl⟩
  | [], h => simp at h
  | [_], h => simp at h
  | _ :: _ :: _ :: _, h => simp at h; omega
 by_cases h1 : k = 1
 ·subst h1; exact .zero rfl (e0 (by simpa using hk))
 by_cases h2 : k = 2
 ·subst h2; exact .one rfl (e0 (by simpa using hk))
 by_cases h3 : k = 3
 ·subst h3
  rw [if_pos rfl, isIn_iff'] at hv
  exact .test rfl (e0 (by simpa using hk)) hv.1 (by omega)
 by_cases h4 : k = 4
 ·subst h4
  rw [if_neg (by omega), if_pos rfl, isIn_iff'] at hv
  exact .act rfl (e0 (by simpa using hk)) hv.1 (by omega)
 by_cases h5 : k = 5
 ·subst h5; obtain ⟨a, hk⟩ := e1 (by simpa using hk); exact .nt rfl a hk
 by_cases h6 : k = 6
 ·subst h6; obtain ⟨a, b, hk⟩ := e2 (by simpa using hk); exact .sum rfl a b hk
 by_cases h7 : k = 7
 ·subst h7; obtain ⟨a, b, hk⟩ := e2 (by simpa using hk); exact .dot rfl a b hk
 by_cases h8 : k = 8
 ·subst h8; obtain ⟨a, hk⟩ := e1 (by simpa using hk); exact .star rfl a hk
 simp [h1, h2, h3, h4, h5, h6, h7, h8] at hk
theorem dotR_tab {n : Nat} {A B : Rel} : rD n (dotR n (relOf (rTab n A)) (relOf (rTab n B))) = rD n (dotR n A B) := rD_congr fun _ _ hx hy => dotU_congr (fun _ hk => relOf_tab hx hk) (fun _ hk => relOf_tab hk hy)
theorem comp_D {P : Program} {f : Nat} (h : K_composed P f) {n : Nat} {A B : Rel} (hn : n ≤ 1000) : AF P f [.ls (some false) 1 (rD n A), .ls (some false) 1 (rD n B)] (.own (.ls (some false) 1 (rD n (dotR n A B)))) := by
 have := h n (rTab n A) (rTab n B) hn rTab_sq rTab_sq
 rw [rD_eq, rD_eq, rD_eq] at this
 rw [dotR_tab] at this
 exact this
end Go.Ax
