/- Contracts of functions of the seat, proved over the engine. No condition. -/
import Derived.Test.YthcgldjelbmjgaaX30
set_option linter.unusedSimpArgs false
set_option linter.unusedVariables false
set_option linter.unnecessarySimpa false
namespace Go.Ax
set_option linter.unusedSimpArgs false
set_option maxRecDepth 20000
set_option maxHeartbeats 4000000
abbrev Rel := Nat → Nat → Bool
def rTab (n : Nat) (R : Rel) : SL (SL Bool) := (some false, tabL n fun x => (some false, tabL n (R x)))
def rRow (n : Nat) (f : Nat → Bool) : List D := tabL n fun y => .sc (.bool (f y))
def rD (n : Nat) (R : Rel) : List D := tabL n fun x => .ls (some false) 1 (rRow n (R x))
theorem rD_eq {n : Nat} {R : Rel} : eS 1 (eS 1 eB) (rTab n R) = .ls (some false) 1 (rD n R) := by
  simp only [eS, rTab, rD, rRow, tabL_map, eB]
theorem rD_len {n : Nat} {R : Rel} : (rD n R).length = n := tabL_len
theorem rRow_len {n : Nat} {f : Nat → Bool} : (rRow n f).length = n := tabL_len
theorem tab_get {α : Type} {n i : Nat} {g : Nat → α} {d : α} (h : i < n) : (tabL n g).getD i d = g i := by simp [tabL, h]
theorem rD_at {n x : Nat} {R : Rel} (h : x < n) : D.at (rD n R) x = .ls (some false) 1 (rRow n (R x)) := tab_get h
theorem tab_congr {α : Type} {n : Nat} {f g : Nat → α} (h : ∀ i, i < n → f i = g i) : tabL n f = tabL n g := List.map_congr_left fun i hi => h i (List.mem_range.1 hi)
theorem rRow_congr {n : Nat} {f g : Nat → Bool} (h : ∀ i, i < n → f i = g i) : rRow n f = rRow n g := tab_congr fun i hi => by rw [h i hi]
theorem rD_congr {n : Nat} {R S : Rel} (h : ∀ x y, x < n → y < n → R x y = S x y) : rD n R = rD n S := tab_congr fun x hx => by rw [rRow_congr fun y hy => h x y hx hy]
theorem tab_set {α : Type} {n i : Nat} {f : Nat → α} {v : α} : (tabL n f).set i v = tabL n fun k => if k = i then v else f k := by
  apply List.ext_getElem
  · simp [tabL]
  · intro k h1 h2
    simp [tabL] at h1
    by_cases e : i = k
    · subst e; simp [tabL]
    · simp [tabL, List.getElem_set, e, Ne.symm e]
def setRow (R : Rel) (x : Nat) (f : Nat → Bool) : Rel := fun a b => if a = x then f b else R a b
theorem rD_row {n x : Nat} {R : Rel} {f : Nat → Bool} : (rD n R).set x (.ls (some false) 1 (rRow n f)) = rD n (setRow R x f) := by
  unfold rD rRow
  rw [tab_set]
  refine tab_congr fun a _ => ?_
  by_cases ha : a = x
  · subst ha; simp [setRow]
  · simp [ha, setRow]
theorem repl_row {n : Nat} : List.replicate n (D.sc (.bool false)) = rRow n fun _ => false := by
  unfold rRow tabL
  apply List.ext_getElem
  · simp
  · intro i h1 h2; simp
theorem rD_cast {n : Nat} {R S : Rel} (h : R = S) : rD n R = rD n S := by rw [h]

structure Sq (n : Nat) (a : SL (SL Bool)) : Prop where
  len : a.2.length = n
  row : ∀ r ∈ a.2, r.2.length = n
def relOf (a : SL (SL Bool)) : Rel := fun x y => (a.2.getD x (none, [])).2.getD y false
theorem Sq.rows {n x : Nat} {a : SL (SL Bool)} (h : Sq n a) (hx : x < n) : (a.2.getD x (none, [])).2.length = n := by
  have hx' : x < a.2.length := by rw [h.len]; exact hx
  rw [show a.2.getD x (none, []) = a.2[x] by simp [hx']]
  exact h.row _ (List.getElem_mem hx')
theorem rTab_sq {n : Nat} {R : Rel} : Sq n (rTab n R) := ⟨tabL_len, fun r hr => by
  obtain ⟨x, _, rfl⟩ := List.mem_map.1 hr
  exact tabL_len⟩
theorem Sq.at {n x : Nat} {a : SL (SL Bool)} (h : Sq n a) (hx : x < n) : D.at (a.2.map (eS 1 eB)) x = .ls (a.2.getD x (none, [])).1 1 ((a.2.getD x (none, [])).2.map eB) := by
  have hx' : x < a.2.length := by rw [h.len]; exact hx
  rw [at_map hx']
  simp [eS, hx']
theorem Sq.at2 {n x y : Nat} {a : SL (SL Bool)} (h : Sq n a) (hx : x < n) (hy : y < n) : D.at ((a.2.getD x (none, [])).2.map eB) y = .sc (.bool (relOf a x y)) := by
  have hy' : y < (a.2.getD x (none, [])).2.length := by rw [h.rows hx]; exact hy
  rw [at_map hy']
  show D.sc (.bool _) = _
  unfold relOf
  congr 2
  simp only [List.getD_eq_getElem?_getD] at hy' ⊢
  rw [List.getElem?_eq_getElem hy']
  rfl
def k_l05None : RC := (.seq (.reg false [⟨none, .mv 2 (.c (.ls (some true) 1 []))⟩]) ((.seq (.reg false [⟨none, .bs 5 1 (.ls (some true) 1 []) 0 []⟩, ⟨none, .mv 3 (.t 5)⟩]) ((.seq ((.seq (.reg false [⟨none, .mv 4 (.c (.sc (.int .i64 0)))⟩]) (.blk 0 (.loop ((.seq ((.seq (.reg false [⟨none, .mv 6 (.t 4)⟩, ⟨none, .mv 7 (.t 0)⟩, ⟨none, .bin 8 .lss (.t 6) (.t 7)⟩]) (.cond (.t 8) (.skip) (.exit 0)))) ((.seq (.blk 1 (.reg false [⟨none, .mv 11 (.t 3)⟩, ⟨none, .mv 12 (.t 0)⟩, ⟨none, .mk 13 1 1 (.sc (.bool false)) (.t 12) (.t 12)⟩, ⟨none, .bs 14 1 (.ls (some true) 1 []) 1 [(0, (.t 13))]⟩, ⟨none, .app 15 1 24 (.t 11) (.t 14)⟩, ⟨none, .mv 3 (.t 15)⟩])) (.reg false [⟨none, .mv 9 (.t 4)⟩, ⟨none, .bin 10 .add (.t 9) (.c (.sc (.int .i64 1)))⟩, ⟨none, .mv 4 (.t 10)⟩]))))))))) ((.seq (.reg false [⟨none, .mv 16 (.t 3)⟩, ⟨none, .mv 2 (.t 16)⟩]) (.ret))))))))
def K_l05None (P : Program) (fno : Nat) : Prop := ∀ (n : Nat) (hn : n ≤ 1000), AF P fno [eI n] (.arr 1 (rD n fun _ _ => false))
theorem a_l05None {P : Program} (hm : P.follows .mixedOrders = true) {g : Nat} (hr : resF P g = some (17, k_l05None, [.t 2])) : K_l05None P g := by
  intro n hn
  refine af_of_res hr hm rfl fun hb => ?_
  simp +contextual -implicitDefEqProofs only [k_l05None, go_sem, eI, eB, ↓reduceIte, Nat.reduceEqDiff, Nat.reduceAdd, Nat.reduceLeDiff, Nat.reduceMul, Nat.reduceBEq, Nat.reduceBneDiff, Nat.reduceLT, Nat.reduceSub, Bool.false_eq_true, List.cons_append, List.nil_append, Int.ofNat_lt, List.length_map, Int.natCast_nonneg]
  refine vc_onU (α := Nat) [3, 4, 5, 6, 7, 8, 9, 10, 11, 12, 13, 14, 15] (fun i => [(4, .im none (.sc (.int .i64 i))), (3, .sm 5 0 i)]) (fun i => [(5, .ar true (some false) 1 (tabL i fun _ => .ls (some false) 1 (rRow n fun _ => false)))]) (fun i => i ≤ n) (fun i => n - i) 0 (Ent.to [] (by simp only [go_sem, ↓reduceIte, Nat.reduceEqDiff, Nat.reduceBEq, Nat.reduceBneDiff, Bool.false_eq_true]; rfl) rfl (by simp [tabL_zero]) (by rfl) (by simp only [subEnv, go_sem, ↓reduceIte, Nat.reduceEqDiff, Nat.reduceBEq, keep, memN, Bool.or_false, Bool.false_or, Bool.or_self, Bool.false_eq_true] <;> simp)) (Nat.zero_le _) ?_
  intro i hi0
  by_cases hi : i < n
  · simp +contextual -implicitDefEqProofs only [hi, tabL_len, go_sem, eI, eB, ↓reduceIte, Nat.reduceEqDiff, Nat.reduceAdd, Nat.reduceLeDiff, Nat.reduceMul, Nat.reduceBEq, Nat.reduceBneDiff, Nat.reduceLT, Nat.reduceSub, Bool.false_eq_true, List.cons_append, List.nil_append, Int.ofNat_lt, List.length_map, Int.natCast_nonneg]
    refine ⟨⟨by omega, by omega, by omega⟩, rfl, by simp, ⟨by omega, by unfold maxEl; omega, by simp [D.size]⟩, i + 1, by omega, by omega, ?_⟩
    rw [wrap_i64 (by omega) (by omega)]
    exact Ent.to [] (by simp only [go_sem, ↓reduceIte, Nat.reduceEqDiff, Nat.reduceBEq, Nat.reduceBneDiff, Bool.false_eq_true]; rfl) rfl (by simp [tabL_succ, repl_row]) (by rfl) (by simp only [subEnv, go_sem, ↓reduceIte, Nat.reduceEqDiff, Nat.reduceBEq, keep, memN, Bool.or_false, Bool.false_or, Bool.or_self, Bool.false_eq_true] <;> simp)
  · obtain rfl : i = n := by omega
    simp +contextual -implicitDefEqProofs only [hi, tabL_len, rD_len, go_sem, eI, eB, ↓reduceIte, Nat.reduceEqDiff, Nat.reduceAdd, Nat.reduceLeDiff, Nat.reduceMul, Nat.reduceBEq, Nat.reduceBneDiff, Nat.reduceLT, Nat.reduceSub, Bool.false_eq_true, List.cons_append, List.nil_append, Int.ofNat_lt, List.length_map, Int.natCast_nonneg]
    rfl
theorem Sq.row_map {n x : Nat} {a : SL (SL Bool)} (h : Sq n a) (hx : x < n) : (a.2.getD x (none, [])).2.map eB = rRow n (relOf a x) := by
  have hr := h.rows hx
  have h3 := fun i hi => h.at2 (x := x) (y := i) hx hi
  unfold relOf at h3 ⊢
  generalize (a.2.getD x (none, [])).2 = r at hr h3 ⊢
  apply List.ext_getElem
  · rw [List.length_map, hr, rRow_len]
  · intro i h1 h2
    rw [List.length_map, hr] at h1
    have h3 := h3 i h1
    rw [at_map (by omega)] at h3
    rw [List.getElem_map, h3]
    simp [rRow, tabL]
theorem rRow_np {n : Nat} {f : Nat → Bool} : noPtrs (rRow n f) = true := by
  have : ∀ l : List D, (∀ d ∈ l, d.noPtr = true) → noPtrs l = true := by
    intro l
    induction l with
    | nil => intro _; rfl
    | cons d l ih => intro h; simp [noPtrs, h d (by simp), ih fun x hx => h x (by simp [hx])]
  refine this _ fun d hd => ?_
  obtain ⟨y, _, rfl⟩ := List.mem_map.1 hd
  rfl
end Go.Ax
