/- Contracts of functions of the seat, proved over the engine. No condition. -/
import Derived.Test.YtjnghfepojipiaaAxH
import Derived.Test.YtjnghfepojipiaaAxN
set_option linter.unusedSimpArgs false
set_option linter.unusedVariables false
set_option linter.unnecessarySimpa false
namespace Go.Ax

theorem szL_mk {α : Type} {sA : α → Int → Int} {cnt : α → Nat} : ∀ {r : List α} {l : Int}, (∀ x ∈ r, ∀ l, 0 ≤ l → l ≤ 1048576 → -1 ≤ sA x l ∧ sA x l ≤ l) → (∀ x ∈ r, ∀ l, 0 ≤ l → l ≤ 1048576 → 0 ≤ sA x l → (cnt x : Int) ≤ 8 * (l - sA x l)) → l ≤ 1048576 → 0 ≤ szL sA r l → (cntL cnt r : Int) ≤ 8 * (l - szL sA r l)
 | [], l, _, _, _, _ => by simp [cntL, szL]
 | x :: r, l, h, hc, hl, h0 => by
  by_cases hn : l < 0
  ·rw [szL_neg hn] at h0; omega
  ·simp only [szL, if_neg hn] at h0 ⊢
   have hx := h x (by simp) l (by omega) hl
   have ih := szL_mk (r := r) (l := sA x l) (fun y hy => h y (by simp [hy])) (fun y hy => hc y (by simp [hy])) (by omega) h0
   have hp : 0 ≤ sA x l := by
    by_cases hn : sA x l < 0
    ·rw [szL_neg hn] at h0; omega
    ·omega
   have h1 := hc x (by simp) l (by omega) hl hp
   simp only [cntL]
   omega
theorem szS_mk {α : Type} {sA : α → Int → Int} {cnt : α → Nat} {x : SL α} {l : Int} (h : ∀ y ∈ x.2, ∀ l, 0 ≤ l → l ≤ 1048576 → -1 ≤ sA y l ∧ sA y l ≤ l) (hc : ∀ y ∈ x.2, ∀ l, 0 ≤ l → l ≤ 1048576 → 0 ≤ sA y l → (cnt y : Int) ≤ 8 * (l - sA y l)) (h1 : 0 ≤ l) (h2 : l ≤ 1048576) (h0 : 0 ≤ szS sA x l) : (cntL cnt x.2 : Int) ≤ 8 * (l - szS sA x l) := by
 unfold szS at h0 ⊢
 have hc1 : cut (l - x.2.length) ≤ l := cut_le (by omega) (by omega)
 have := szL_mk (cnt := cnt) h hc (by omega) h0
 omega

structure HFam (P : Program) {α : Type} (f : α → D) (s : α → Int → Int) (t : α → α) (mF hF : Nat) where
 mrk : α → Int → α
 cnt : α → Nat
 cnt_s : ∀ x l, 0 ≤ l → l ≤ 1048576 → 0 ≤ s x l → (cnt x : Int) ≤ 8 * (l - s x l)
 cnt_t : ∀ x, cnt (t x) = cnt x
 afM : ∀ x k, 0 ≤ k → k + cnt x ≤ maxK → AFM P mF (f x) k (f (mrk x k)) (k + cnt x)
 afH : ∀ x k, 0 ≤ k → k + cnt x ≤ maxK → AF P hF [f (mrk x k), eI k] (.own (eI (k + cnt x)))

theorem cntL_one {α : Type} (xs : List α) : cntL (one (α := α)) xs = xs.length := by
 induction xs with
 | nil => rfl
 | cons x xs ih => simp only [cntL, ih, one, List.length_cons]; omega
section
variable {P : Program} (hm : P.follows .mixedOrders = true)

theorem cut_mk {n : Nat} {l : Int} (h0 : 0 ≤ cut (l - n)) : (n : Int) ≤ 8 * (l - cut (l - n)) := by
 have := cut_nonneg h0
 omega

theorem cntL_map {α : Type} {cnt : α → Nat} {t : α → α} (h : ∀ x, cnt (t x) = cnt x) : ∀ l : List α, cntL cnt (l.map t) = cntL cnt l
 | [] => rfl
 | x :: r => by simp only [List.map_cons, cntL, h, cntL_map h r]
def hfB {mF hF : Nat} {s : SL Bool → Int → Int} {t : SL Bool → SL Bool} (hs : ∀ x l, s x l = cut (l - x.2.length)) (ht : ∀ x, t x = (some false, x.2)) (rm : resF P mF = some (21, cMkB, [.t 4])) (rh : resF P hF = some (23, cHdB, [.t 4])) : HFam P (eS 1 eB) s t mF hF where
 mrk x k := (x.1, mkL mkB one x.2 k)
 cnt x := x.2.length
 cnt_s x l _ _ h := by rw [hs] at h ⊢; exact cut_mk h
 cnt_t x := by rw [ht]
 afM x k h0 h1 := by have := af_mkB rm x.1 x.2 k h0 (by rw [cntL_one]; exact h1); rw [cntL_one] at this; exact this
 afH x k h0 h1 := by have := af_hdB hm rh x.1 x.2 k h0 (by rw [cntL_one]; exact h1); rw [cntL_one] at this; exact this
def hfC {α : Type} {f : α → D} {mF mF' hF hF' sF tF qF : Nat} (fam : Fam P f sF tF qF) (e : Enc f 1 false) (k : HFam P f fam.s fam.t mF hF) {t' : SL α → SL α} (ht : ∀ x, t' x = (some false, x.2.map fam.t)) (rm : resF P mF' = some (19, cMkC mF, [.t 4])) (rh : resF P hF' = some (21, cHdC hF, [.t 4])) : HFam P (eS 1 f) (szS fam.s) t' mF' hF' where
 mrk x i := (x.1, mkL k.mrk k.cnt x.2 i)
 cnt x := cntL k.cnt x.2
 cnt_s x l h1 h2 h := szS_mk (fun y _ => fam.s_in y) (fun y _ => k.cnt_s y) h1 h2 h
 cnt_t x := by rw [ht]; exact cntL_map k.cnt_t _
 afM x i h0 h1 := af_mkC rm e x.1 x.2 i (fun y _ => k.afM y) h0 h1
 afH x i h0 h1 := af_hdC hm rh e x.1 x.2 i (fun y _ => k.afH y) h0 h1
end

section
variable {P : Program} (hm : P.follows .mixedOrders = true)
end
theorem cntL_bd {α : Type} {cnt : α → Nat} {c : Nat} : ∀ {l : List α}, (∀ x ∈ l, cnt x ≤ c) → cntL cnt l ≤ l.length * c
 | [], _ => by simp [cntL]
 | x :: r, h => by
  have h1 := h x (by simp)
  have h2 := cntL_bd (l := r) fun y hy => h y (by simp [hy])
  simp only [cntL, List.length_cons, Nat.succ_mul]
  omega
end Go.Ax
