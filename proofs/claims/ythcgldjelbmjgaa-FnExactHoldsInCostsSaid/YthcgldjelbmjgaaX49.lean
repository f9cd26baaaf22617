/- Contracts of functions of the seat, proved over the engine. No condition. -/
import Derived.Test.YthcgldjelbmjgaaX40
set_option linter.unusedSimpArgs false
set_option linter.unusedVariables false
set_option linter.unnecessarySimpa false
namespace Go.Ax
set_option linter.unusedSimpArgs false
set_option maxRecDepth 20000
set_option maxHeartbeats 4000000
abbrev Mat := Nat → Nat → Int

def tg (a b : Int) : Int := if a = -1 ∨ b = -1 ∨ a + b > 1000000 then -1 else a + b

def ch (a b : Int) : Int := if a = -1 ∨ (b ≠ -1 ∧ b < a) then b else a
def okC (a : Int) : Prop := -1 ≤ a ∧ a ≤ 1000000
def cle (a b : Int) : Prop := b = -1 ∨ (a ≠ -1 ∧ a ≤ b)
theorem cle_refl {a : Int} : cle a a := by unfold cle; omega
theorem cle_trans {a b c : Int} (h1 : cle a b) (h2 : cle b c) : cle a c := by unfold cle at *; omega
theorem cle_anti {a b : Int} (h1 : cle a b) (h2 : cle b a) : a = b := by unfold cle at *; omega
theorem cle_far {a : Int} : cle a (-1) := .inl rfl
theorem ch_le1 {a b : Int} : cle (ch a b) a := by unfold ch cle; split <;> omega
theorem ch_le2 {a b : Int} : cle (ch a b) b := by unfold ch cle; split <;> omega
theorem ch_or (a b : Int) : ch a b = a ∨ ch a b = b := by unfold ch; split <;> simp
theorem ch_ok {a b : Int} (h1 : okC a) (h2 : okC b) : okC (ch a b) := by rcases ch_or a b with h | h <;> rw [h] <;> assumption
theorem ch_self {a : Int} : ch a a = a := by unfold ch; split <;> rfl
theorem ch_zero {b : Int} (h : okC b) : ch 0 b = 0 := by unfold ch okC at *; split <;> omega
theorem tg_ok {a b : Int} (h1 : okC a) (h2 : okC b) : okC (tg a b) := by unfold tg okC at *; split <;> omega
theorem tg_mono {a b c d : Int} (h1 : cle a c) (h2 : cle b d) (ha : okC a) (hb : okC b) : cle (tg a b) (tg c d) := by unfold cle tg okC at *; split <;> split <;> omega
theorem tg_zl {a : Int} (h : okC a) : tg 0 a = a := by unfold tg okC at *; split <;> omega
theorem tg_zr {a : Int} (h : okC a) : tg a 0 = a := by unfold tg okC at *; split <;> omega
theorem tg_assoc {a b c : Int} (h1 : okC a) (h2 : okC b) (h3 : okC c) : tg (tg a b) c = tg a (tg b c) := by
  unfold okC at *
  unfold tg
  split <;> split <;> split <;> split <;> omega
theorem tg_skip {a b c d : Int} (h1 : okC a) (h2 : okC b) (h3 : okC c) (h4 : okC d) : cle (tg a d) (tg (tg a b) (tg c d)) := by
  unfold okC at *
  unfold cle tg
  split <;> split <;> split <;> split <;> omega
def okM (n : Nat) (A : Mat) : Prop := ∀ x y, x < n → y < n → okC (A x y)
def dotV (A B : Mat) : Nat → Mat
  | 0 => fun _ _ => -1
  | z + 1 => fun x y => ch (dotV A B z x y) (tg (A x z) (B z y))
def dotM (n : Nat) (A B : Mat) : Mat := dotV A B n
def diM (A : Mat) : Mat := fun x y => if x = y then 0 else A x y
def warM (A : Mat) : Nat → Mat
  | 0 => diM A
  | k + 1 => fun x y => ch (warM A k x y) (tg (warM A k x k) (warM A k k y))
def starM (n : Nat) (A : Mat) : Mat := warM A n
def sqM (n : Nat) (A : Mat) : Nat → Mat
  | 0 => diM A
  | k + 1 => dotM n (sqM n A k) (sqM n A k)
theorem okC_far : okC (-1) := by unfold okC; omega
theorem okC_zero : okC 0 := by unfold okC; omega
theorem dotV_ok {n : Nat} {A B : Mat} (hA : okM n A) (hB : okM n B) : ∀ {z : Nat}, z ≤ n → okM n (dotV A B z)
  | 0, _, _, _, _, _ => okC_far
  | z + 1, hz, x, y, hx, hy => ch_ok (dotV_ok hA hB (by omega) x y hx hy) (tg_ok (hA x z hx (by omega)) (hB z y (by omega) hy))
theorem dotM_ok {n : Nat} {A B : Mat} (hA : okM n A) (hB : okM n B) : okM n (dotM n A B) := dotV_ok hA hB (Nat.le_refl n)
theorem dotV_congr {A B A' B' : Mat} {x y : Nat} : ∀ {n : Nat}, (∀ k, k < n → A x k = A' x k) → (∀ k, k < n → B k y = B' k y) → dotV A B n x y = dotV A' B' n x y
  | 0, _, _ => rfl
  | n + 1, h1, h2 => by
    simp only [dotV]
    rw [dotV_congr (n := n) (fun k hk => h1 k (by omega)) (fun k hk => h2 k (by omega)), h1 n (by omega), h2 n (by omega)]
theorem diM_ok {n : Nat} {A : Mat} (h : okM n A) : okM n (diM A) := fun x y hx hy => by
  unfold diM; split
  · exact okC_zero
  · exact h x y hx hy
theorem warM_ok {n : Nat} {A : Mat} (h : okM n A) : ∀ {k : Nat}, k ≤ n → okM n (warM A k)
  | 0, _ => diM_ok h
  | k + 1, hk => fun x y hx hy => ch_ok (warM_ok h (by omega) x y hx hy) (tg_ok (warM_ok h (by omega) x k hx (by omega)) (warM_ok h (by omega) k y (by omega) hy))
theorem sqM_ok {n : Nat} {A : Mat} (h : okM n A) : ∀ {k : Nat}, okM n (sqM n A k)
  | 0 => diM_ok h
  | _ + 1 => dotM_ok (sqM_ok h) (sqM_ok h)
theorem warM_diag {n : Nat} {A : Mat} (h : okM n A) : ∀ {k x : Nat}, k ≤ n → x < n → warM A k x x = 0
  | 0, x, _, _ => by simp [warM, diM]
  | k + 1, x, hk, hx => by
    simp only [warM]
    rw [warM_diag h (by omega) hx]
    exact ch_zero (tg_ok (warM_ok h (by omega) x k hx (by omega)) (warM_ok h (by omega) k x (by omega) hx))
theorem warM_col {n : Nat} {A : Mat} (h : okM n A) {k x : Nat} (hk : k < n) (hx : x < n) : warM A (k + 1) x k = warM A k x k := by
  simp only [warM]
  rw [warM_diag h (by omega) hk, tg_zr (warM_ok h (by omega) x k hx hk), ch_self]
theorem warM_row {n : Nat} {A : Mat} (h : okM n A) {k y : Nat} (hk : k < n) (hy : y < n) : warM A (k + 1) k y = warM A k k y := by
  simp only [warM]
  rw [warM_diag h (by omega) hk, tg_zl (warM_ok h (by omega) k y hk hy), ch_self]
theorem warM_le {A : Mat} {x y : Nat} : ∀ {j k : Nat}, j ≤ k → cle (warM A k x y) (warM A j x y)
  | j, 0, h => by obtain rfl : j = 0 := by omega
                  exact cle_refl
  | j, k + 1, h => by
    by_cases e : j = k + 1
    · subst e; exact cle_refl
    · exact cle_trans ch_le1 (warM_le (j := j) (k := k) (by omega))
theorem warM_tri {n : Nat} {A : Mat} (h : okM n A) : ∀ {k z x y : Nat}, k ≤ n → z < k → x < n → y < n → cle (warM A k x y) (tg (warM A k x z) (warM A k z y))
  | k + 1, z, x, y, hk, hz, hx, hy => by
    have o : okM n (warM A k) := warM_ok h (by omega)
    have hk' : k < n := hk
    by_cases e : z = k
    · subst e
      rw [warM_col h hk' hx, warM_row h hk' hy]
      exact ch_le2
    · have hz' : z < k := by omega
      have hzn : z < n := by omega
      have ih := fun {x y : Nat} => warM_tri h (k := k) (z := z) (x := x) (y := y) (by omega) hz'
      have g1 : cle (warM A (k + 1) x y) (warM A k x y) := ch_le1
      have g2 : cle (warM A (k + 1) x y) (tg (warM A k x k) (warM A k k y)) := ch_le2
      have p1 : warM A (k + 1) x z = warM A k x z ∨ warM A (k + 1) x z = tg (warM A k x k) (warM A k k z) := ch_or _ _
      have p2 : warM A (k + 1) z y = warM A k z y ∨ warM A (k + 1) z y = tg (warM A k z k) (warM A k k y) := ch_or _ _
      rcases p1 with p1 | p1 <;> rcases p2 with p2 | p2 <;> rw [p1, p2]
      · exact cle_trans g1 (ih hx hy)
      · rw [← tg_assoc (o x z hx hzn) (o z k hzn hk') (o k y hk' hy)]
        exact cle_trans g2 (tg_mono (ih hx hk') cle_refl (o x k hx hk') (o k y hk' hy))
      · rw [tg_assoc (o x k hx hk') (o k z hk' hzn) (o z y hzn hy)]
        exact cle_trans g2 (tg_mono cle_refl (ih hk' hy) (o x k hx hk') (o k y hk' hy))
      · exact cle_trans g2 (tg_skip (o x k hx hk') (o k z hk' hzn) (o z k hzn hk') (o k y hk' hy))
theorem dotV_le {A B : Mat} {x y z : Nat} : ∀ {n : Nat}, z < n → cle (dotV A B n x y) (tg (A x z) (B z y))
  | n + 1, h => by
    by_cases e : z = n
    · subst e; exact ch_le2
    · exact cle_trans ch_le1 (dotV_le (by omega))
theorem dotV_glb {A B : Mat} {x y : Nat} {c : Int} : ∀ {n : Nat}, (∀ z, z < n → cle c (tg (A x z) (B z y))) → cle c (dotV A B n x y)
  | 0, _ => cle_far
  | n + 1, h => by
    simp only [dotV]
    rcases ch_or (dotV A B n x y) (tg (A x n) (B n y)) with e | e <;> rw [e]
    · exact dotV_glb fun z hz => h z (by omega)
    · exact h n (by omega)
theorem sqM_diag {n : Nat} {A : Mat} (h : okM n A) : ∀ {k x : Nat}, x < n → sqM n A k x x = 0
  | 0, x, _ => by simp [sqM, diM]
  | k + 1, x, hx => by
    have h1 : cle (sqM n A (k + 1) x x) (tg (sqM n A k x x) (sqM n A k x x)) := dotV_le hx
    rw [sqM_diag h (k := k) hx] at h1
    have h3 : tg 0 0 = 0 := by decide
    rw [h3] at h1
    have h2 := sqM_ok h (k := k + 1) x x hx hx
    unfold cle at h1; unfold okC at h2; omega
theorem sq_le_war {n : Nat} {A : Mat} (h : okM n A) : ∀ {k x y : Nat}, k ≤ n → x < n → y < n → cle (sqM n A k x y) (warM A k x y)
  | 0, _, _, _, _, _ => cle_refl
  | k + 1, x, y, hk, hx, hy => by
    have hk' : k < n := hk
    have ih := fun {x y : Nat} => sq_le_war h (k := k) (x := x) (y := y) (by omega)
    rcases ch_or (warM A k x y) (tg (warM A k x k) (warM A k k y)) with e | e
    · rw [show warM A (k + 1) x y = warM A k x y from e]
      have h1 : cle (sqM n A (k + 1) x y) (tg (sqM n A k x y) (sqM n A k y y)) := dotV_le hy
      rw [sqM_diag h hy, tg_zr (sqM_ok h x y hx hy)] at h1
      exact cle_trans h1 (ih hx hy)
    · rw [show warM A (k + 1) x y = tg (warM A k x k) (warM A k k y) from e]
      exact cle_trans (dotV_le hk') (tg_mono (ih hx hk') (ih hk' hy) (sqM_ok h x k hx hk') (sqM_ok h k y hk' hy))
theorem war_le_sq {n : Nat} {A : Mat} (h : okM n A) : ∀ {k x y : Nat}, x < n → y < n → cle (warM A n x y) (sqM n A k x y)
  | 0, _, _, _, _ => warM_le (Nat.zero_le n)
  | k + 1, x, y, hx, hy => dotV_glb fun z hz => cle_trans (warM_tri h (Nat.le_refl n) hz hx hy) (tg_mono (war_le_sq h hx hz) (war_le_sq h hz hy) (warM_ok h (Nat.le_refl n) x z hx hz) (warM_ok h (Nat.le_refl n) z y hz hy))
theorem sqM_star {n : Nat} {A : Mat} (h : okM n A) {x y : Nat} (hx : x < n) (hy : y < n) : sqM n A n x y = starM n A x y :=
  cle_anti (sq_le_war h (Nat.le_refl n) hx hy) (war_le_sq h hx hy)
theorem starM_congr {n : Nat} {A B : Mat} (h : ∀ x y, x < n → y < n → A x y = B x y) : ∀ {k x y : Nat}, k ≤ n → x < n → y < n → warM A k x y = warM B k x y
  | 0, x, y, _, hx, hy => by simp [warM, diM, h x y hx hy]
  | k + 1, x, y, hk, hx, hy => by
    simp only [warM]
    rw [starM_congr h (by omega) hx hy, starM_congr h (by omega) hx (by omega : k < n), starM_congr h (by omega) (by omega : k < n) hy]
def mTab (n : Nat) (R : Mat) : SL (SL Int) := (some false, tabL n fun x => (some false, tabL n (R x)))
def mRow (n : Nat) (f : Nat → Int) : List D := tabL n fun y => .sc (.int .i64 (f y))
def mD (n : Nat) (R : Mat) : List D := tabL n fun x => .ls (some false) 1 (mRow n (R x))
theorem mD_eq {n : Nat} {R : Mat} : eS 1 (eS 1 eI) (mTab n R) = .ls (some false) 1 (mD n R) := by
  simp only [eS, mTab, mD, mRow, tabL_map, eI]
theorem mD_len {n : Nat} {R : Mat} : (mD n R).length = n := tabL_len
theorem mRow_len {n : Nat} {f : Nat → Int} : (mRow n f).length = n := tabL_len
theorem mD_at {n x : Nat} {R : Mat} (h : x < n) : D.at (mD n R) x = .ls (some false) 1 (mRow n (R x)) := tab_get h
theorem mRow_at {n y : Nat} {f : Nat → Int} (h : y < n) : D.at (mRow n f) y = .sc (.int .i64 (f y)) := tab_get h
theorem mRow_congr {n : Nat} {f g : Nat → Int} (h : ∀ i, i < n → f i = g i) : mRow n f = mRow n g := tab_congr fun i hi => by rw [h i hi]
theorem mD_congr {n : Nat} {R S : Mat} (h : ∀ x y, x < n → y < n → R x y = S x y) : mD n R = mD n S := tab_congr fun x hx => by rw [mRow_congr fun y hy => h x y hx hy]
def setM (R : Mat) (x y : Nat) (v : Int) : Mat := fun a b => if a = x ∧ b = y then v else R a b
theorem mD_set {n x y : Nat} {R : Mat} {v : Int} : (mD n R).set x (.ls (some false) 1 ((mRow n (R x)).set y (.sc (.int .i64 v)))) = mD n (setM R x y v) := by
  unfold mD mRow
  rw [tab_set, tab_set]
  refine tab_congr fun a _ => ?_
  by_cases ha : a = x
  · subst ha
    simp only [if_true, setM]
    congr 1
    refine tab_congr fun b _ => ?_
    by_cases hb : b = y
    · simp [hb]
    · simp [hb]
  · simp [ha, setM]
def setMr (R : Mat) (x : Nat) (f : Nat → Int) : Mat := fun a b => if a = x then f b else R a b
theorem mD_row {n x : Nat} {R : Mat} {f : Nat → Int} : (mD n R).set x (.ls (some false) 1 (mRow n f)) = mD n (setMr R x f) := by
  unfold mD mRow
  rw [tab_set]
  refine tab_congr fun a _ => ?_
  by_cases ha : a = x
  · subst ha; simp [setMr]
  · simp [ha, setMr]
structure Sm (n : Nat) (a : SL (SL Int)) : Prop where
  len : a.2.length = n
  row : ∀ r ∈ a.2, r.2.length = n
def matOf (a : SL (SL Int)) : Mat := fun x y => (a.2.getD x (none, [])).2.getD y 0
theorem Sm.rows {n x : Nat} {a : SL (SL Int)} (h : Sm n a) (hx : x < n) : (a.2.getD x (none, [])).2.length = n := by
  have hx' : x < a.2.length := by rw [h.len]; exact hx
  rw [show a.2.getD x (none, []) = a.2[x] by simp [hx']]
  exact h.row _ (List.getElem_mem hx')
theorem mTab_sq {n : Nat} {R : Mat} : Sm n (mTab n R) := ⟨tabL_len, fun r hr => by
  obtain ⟨x, _, rfl⟩ := List.mem_map.1 hr
  exact tabL_len⟩
theorem matOf_tab {n x y : Nat} {R : Mat} (hx : x < n) (hy : y < n) : matOf (mTab n R) x y = R x y := by
  unfold matOf mTab
  rw [tab_get hx, tab_get hy]
theorem Sm.at {n x : Nat} {a : SL (SL Int)} (h : Sm n a) (hx : x < n) : D.at (a.2.map (eS 1 eI)) x = .ls (a.2.getD x (none, [])).1 1 ((a.2.getD x (none, [])).2.map eI) := by
  have hx' : x < a.2.length := by rw [h.len]; exact hx
  rw [at_map hx']
  simp [eS, hx']
theorem Sm.at2 {n x y : Nat} {a : SL (SL Int)} (h : Sm n a) (hx : x < n) (hy : y < n) : D.at ((a.2.getD x (none, [])).2.map eI) y = .sc (.int .i64 (matOf a x y)) := by
  have hy' : y < (a.2.getD x (none, [])).2.length := by rw [h.rows hx]; exact hy
  rw [at_map hy']
  show D.sc (.int .i64 _) = _
  unfold matOf
  congr 2
  simp only [List.getD_eq_getElem?_getD] at hy' ⊢
  rw [List.getElem?_eq_getElem hy']
  rfl
theorem spl_allM {n : Nat} {f : Nat → Int} {ds : List D} (h : ds.length = n) : spl (mRow n f) 0 n ds = ds := by
  unfold spl
  rw [List.take_of_length_le (l := ds) (by omega), List.drop_eq_nil_of_le (by rw [mRow_len]; omega)]
  simp
theorem Sm.row_map {n x : Nat} {a : SL (SL Int)} (h : Sm n a) (hx : x < n) : (a.2.getD x (none, [])).2.map eI = mRow n (matOf a x) := by
  have hr := h.rows hx
  have h3 := fun i hi => h.at2 (x := x) (y := i) hx hi
  unfold matOf at h3 ⊢
  generalize (a.2.getD x (none, [])).2 = r at hr h3 ⊢
  apply List.ext_getElem
  · rw [List.length_map, hr, mRow_len]
  · intro i h1 h2
    rw [List.length_map, hr] at h1
    have h3 := h3 i h1
    rw [at_map (by omega)] at h3
    rw [List.getElem_map, h3]
    simp [mRow, tabL]
theorem mRow_np {n : Nat} {f : Nat → Int} : noPtrs (mRow n f) = true := by
  have : ∀ l : List D, (∀ d ∈ l, d.noPtr = true) → noPtrs l = true := by
    intro l
    induction l with
    | nil => intro _; rfl
    | cons d l ih => intro h; simp [noPtrs, h d (by simp), ih fun x hx => h x (by simp [hx])]
  refine this _ fun d hd => ?_
  obtain ⟨y, _, rfl⟩ := List.mem_map.1 hd
  rfl

def noneM : Mat := fun _ _ => -1
def mdiagF (f : Nat → Int) (i : Nat) : Mat := fun a b => if a < i ∧ a = b then f a else -1
def mdiag (f : Nat → Int) : Mat := fun a b => if a = b then f a else -1
theorem mdiagF_zero {f : Nat → Int} : mdiagF f 0 = noneM := by funext a b; simp [mdiagF, noneM]
theorem mdiagF_full {n : Nat} {f : Nat → Int} : mD n (mdiagF f n) = mD n (mdiag f) := mD_congr fun a b ha _ => by simp [mdiagF, mdiag, ha]
theorem mdiagF_step {f : Nat → Int} {i : Nat} : setM (mdiagF f i) i i (f i) = mdiagF f (i + 1) := by
  funext a b; unfold setM mdiagF
  by_cases ha : a = i
  · subst ha
    by_cases hb : b = a
    · subst hb; simp
    · simp [hb, show ¬ a = b from fun e => hb e.symm]
  · have h1 : a < i + 1 ↔ a < i := by omega
    simp [ha, h1]
theorem mdiagF_skip {f : Nat → Int} {i : Nat} (h : f i = -1) : mdiagF f i = mdiagF f (i + 1) := by
  funext a b; unfold mdiagF
  by_cases ha : a = i
  · subst ha; simp [h]
  · have h1 : a < i + 1 ↔ a < i := by omega
    simp [h1]
def mrowF (R : Mat) (i : Nat) : Mat := fun a b => if a < i then R a b else -1
theorem mrowF_zero {R : Mat} : mrowF R 0 = noneM := by funext a b; simp [mrowF, noneM]
theorem mrowF_full {n : Nat} {R : Mat} : mD n (mrowF R n) = mD n R := mD_congr fun a b ha _ => by simp [mrowF, ha]
theorem mrowF_step {R : Mat} {i : Nat} : setMr (mrowF R i) i (R i) = mrowF R (i + 1) := by
  funext a b; unfold setMr mrowF
  by_cases ha : a = i
  · subst ha; simp
  · have h1 : a < i + 1 ↔ a < i := by omega
    simp [ha, h1]
def mcellF (R : Mat) (i y : Nat) : Mat := fun a b => if a = i ∧ b < y then R a b else mrowF R i a b
theorem mcellF_zero {R : Mat} {i : Nat} : mcellF R i 0 = mrowF R i := by funext a b; simp [mcellF]
theorem mcellF_full {n : Nat} {R : Mat} {i : Nat} : mD n (mcellF R i n) = mD n (mrowF R (i + 1)) := mD_congr fun a b _ hb => by
  unfold mcellF mrowF
  by_cases ha : a = i
  · subst ha; simp [hb]
  · have h1 : a < i + 1 ↔ a < i := by omega
    simp [ha, h1]
theorem mcellF_step {R : Mat} {i y : Nat} : setM (mcellF R i y) i y (R i y) = mcellF R i (y + 1) := by
  funext a b; unfold setM mcellF
  by_cases ha : a = i
  · subst ha
    by_cases hb : b = y
    · subst hb; simp
    · by_cases hb2 : b < y
      · simp [hb, hb2, show b < y + 1 by omega]
      · simp [hb, hb2, show ¬ b < y + 1 by omega]
  · simp [ha]
def pdF2 (n : Nat) (A B : Mat) (i z : Nat) : Mat := fun a b => if a = i then dotV A B z i b else mrowF (dotM n A B) i a b
def pdF3 (n : Nat) (A B : Mat) (i z y : Nat) : Mat := fun a b => if a = i ∧ b < y then dotV A B (z + 1) i b else pdF2 n A B i z a b
theorem pdF2_zero {n : Nat} {A B : Mat} {i : Nat} : pdF2 n A B i 0 = mrowF (dotM n A B) i := by
  funext a b; unfold pdF2 mrowF
  split
  · next h => subst h; simp [dotV]
  · rfl
theorem pdF2_full {n : Nat} {A B : Mat} {i : Nat} : pdF2 n A B i n = mrowF (dotM n A B) (i + 1) := by
  funext a b; unfold pdF2 mrowF
  by_cases ha : a = i
  · subst ha; simp [dotM]
  · have h1 : a < i + 1 ↔ a < i := by omega
    simp [ha, h1]
theorem pdF3_zero {n : Nat} {A B : Mat} {i z : Nat} : pdF3 n A B i z 0 = pdF2 n A B i z := by funext a b; simp [pdF3]
theorem pdF3_step {n : Nat} {A B : Mat} {i z y : Nat} : setM (pdF3 n A B i z y) i y (ch (dotV A B z i y) (tg (A i z) (B z y))) = pdF3 n A B i z (y + 1) := by
  funext a b; unfold setM pdF3
  by_cases ha : a = i
  · subst ha
    by_cases hb : b = y
    · subst hb; simp [dotV]
    · by_cases hb2 : b < y
      · simp [hb, hb2, show b < y + 1 by omega]
      · simp [hb, hb2, show ¬ b < y + 1 by omega]
  · simp [ha]
theorem pdF3_at {n : Nat} {A B : Mat} {i z y : Nat} : pdF3 n A B i z y i y = dotV A B z i y := by simp [pdF3, pdF2]
theorem pdF3_full {n : Nat} {A B : Mat} {i z : Nat} : mD n (pdF3 n A B i z n) = mD n (pdF2 n A B i (z + 1)) := mD_congr fun a b _ hb => by
  unfold pdF3 pdF2
  by_cases ha : a = i <;> simp [ha, hb]

def msF0 (A : Mat) (i : Nat) : Mat := mrowF (diM A) i
theorem msF0_step {A : Mat} {i : Nat} : setM (setMr (msF0 A i) i (A i)) i i 0 = msF0 A (i + 1) := by
  funext a b; unfold setM setMr msF0 mrowF diM
  by_cases ha : a = i
  · subst ha
    by_cases hb : b = a
    · subst hb; simp
    · simp [hb, show ¬ (a = b) from fun e => hb e.symm]
  · have h1 : a < i + 1 ↔ a < i := by omega
    simp [ha, h1]
def msF1 (A : Mat) (z i : Nat) : Mat := fun a b => if a < i then warM A (z + 1) a b else warM A z a b
def msF2 (A : Mat) (z i y : Nat) : Mat := fun a b => if a = i ∧ b < y then warM A (z + 1) a b else msF1 A z i a b
theorem msF1_zero {A : Mat} {z : Nat} : msF1 A z 0 = warM A z := by funext a b; simp [msF1]
theorem msF1_full {n : Nat} {A : Mat} {z : Nat} : mD n (msF1 A z n) = mD n (warM A (z + 1)) := mD_congr fun a b ha _ => by simp [msF1, ha]
theorem msF2_zero {A : Mat} {z i : Nat} : msF2 A z i 0 = msF1 A z i := by funext a b; simp [msF2]
theorem msF2_full {n : Nat} {A : Mat} {z i : Nat} : mD n (msF2 A z i n) = mD n (msF1 A z (i + 1)) := mD_congr fun a b _ hb => by
  unfold msF2 msF1
  by_cases ha : a = i
  · subst ha; simp [hb]
  · have h1 : a < i + 1 ↔ a < i := by omega
    simp [ha, h1]
theorem msF2_col {n : Nat} {A : Mat} (h : okM n A) {z i y : Nat} (hz : z < n) (hi : i < n) : msF2 A z i y i z = warM A z i z := by
  unfold msF2 msF1
  split
  · exact warM_col h hz hi
  · simp
theorem msF2_at {A : Mat} {z i y : Nat} : msF2 A z i y i y = warM A z i y := by simp [msF2, msF1]
theorem msF2_row {n : Nat} {A : Mat} (h : okM n A) {z i y : Nat} (hz : z < n) (hy : y < n) : msF2 A z i y z y = warM A z z y := by
  unfold msF2 msF1
  split
  · exact warM_row h hz hy
  · split
    · exact warM_row h hz hy
    · rfl
theorem msF2_step {A : Mat} {z i y : Nat} : setM (msF2 A z i y) i y (ch (warM A z i y) (tg (warM A z i z) (warM A z z y))) = msF2 A z i (y + 1) := by
  funext a b; unfold setM msF2
  by_cases ha : a = i
  · subst ha
    by_cases hb : b = y
    · subst hb; simp [warM]
    · by_cases hb2 : b < y
      · simp [hb, hb2, show b < y + 1 by omega]
      · simp [hb, hb2, show ¬ b < y + 1 by omega]
  · simp [ha]
theorem dotM_tab {n : Nat} {A B : Mat} : mD n (dotM n (matOf (mTab n A)) (matOf (mTab n B))) = mD n (dotM n A B) := mD_congr fun _ _ hx hy => dotV_congr (fun _ hk => matOf_tab hx hk) (fun _ hk => matOf_tab hk hy)
theorem starM_tab {n : Nat} {A : Mat} : mD n (starM n (matOf (mTab n A))) = mD n (starM n A) := mD_congr fun _ _ hx hy => starM_congr (A := matOf (mTab n A)) (B := A) (n := n) (fun _ _ hx hy => matOf_tab hx hy) (Nat.le_refl n) hx hy
theorem okM_tab {n : Nat} {A : Mat} (h : okM n A) : okM n (matOf (mTab n A)) := fun x y hx hy => by rw [matOf_tab hx hy]; exact h x y hx hy
theorem sqM_starD {n : Nat} {A : Mat} (h : okM n A) : mD n (sqM n A n) = mD n (starM n A) := mD_congr fun _ _ hx hy => sqM_star h hx hy
end Go.Ax
