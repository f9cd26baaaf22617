/- Contracts of functions of the seat, proved over the engine. No condition. -/
import Derived.Test.YtjnghfepojipiaaX22
set_option linter.unusedSimpArgs false
set_option linter.unusedVariables false
set_option linter.unnecessarySimpa false
namespace Go.Ax
set_option linter.unusedSimpArgs false
set_option maxRecDepth 20000
set_option maxHeartbeats 4000000

theorem cntL_congr {α β : Type} {f : α → Nat} {g : β → Nat} {h : α → β} : ∀ {l : List α}, (∀ x ∈ l, g (h x) = f x) → cntL g (l.map h) = cntL f l
 | [], _ => rfl
 | x :: l, hx => by simp only [List.map_cons, cntL, hx x (by simp), cntL_congr (l := l) fun y hy => hx y (by simp [hy])]
theorem cntE_eq (e : Ex) : cntE e = 2 + cntE0 e := by obtain ⟨k, n, nn, ks, rfl⟩ := Ex.ex e; rw [cntE_mk, cntE0_mk]
theorem cntE_tE : ∀ e : Ex, cntE (tE e) = cntE e :=
 Ex.ind fun k n nn ks ih => by rw [tE_mk, cntE_mk, cntE_mk, cntL_congr ih]
theorem szE_cnt : ∀ (e : Ex) (l : Int), 0 ≤ l → l ≤ 1048576 → 0 ≤ szE e l → (cntE0 e : Int) = 2 * (l - szE e l) :=
 Ex.ind fun k n nn ks ih l h1 h2 h => by
  have key : ∀ (ks : List Ex), (∀ e ∈ ks, ∀ l : Int, 0 ≤ l → l ≤ 1048576 → 0 ≤ szE e l → (cntE0 e : Int) = 2 * (l - szE e l)) → ∀ m : Int, 0 ≤ m → m ≤ 1048576 → 0 ≤ szL szE ks m → (cntL cntE ks : Int) = 2 * (m - szL szE ks m) + 2 * ks.length := by
   intro ks
   induction ks with
   | nil => intro _ m _ _ _; simp [cntL, szL]
   | cons x ks ihk =>
    intro hx m m1 m2 m3
    have hm : ¬ m < 0 := by omega
    simp only [szL, if_neg hm] at m3 ⊢
    have hin := szE_in x m m1 m2
    have h0 : 0 ≤ szE x m := by
     refine Classical.byContradiction fun hn => ?_
     rw [szL_neg (by omega)] at m3
     omega
    have e1 := hx x (by simp) m m1 m2 h0
    have e2 := ihk (fun e he => hx e (by simp [he])) (szE x m) h0 (by omega) m3
    simp only [cntL, cntE_eq, List.length_cons]
    push_cast
    omega
  rw [szE_mk] at h ⊢
  obtain ⟨p1, p2⟩ := nx_fit h
  simp only [szS] at h p1 ⊢
  have hc : 0 ≤ cut (l - ks.length) := by
   refine Classical.byContradiction fun hn => ?_
   rw [szL_neg (by omega)] at p1
   omega
  obtain ⟨c1, c2⟩ := cut_nonneg hc
  have := key ks ih (cut (l - ks.length)) hc (by omega) p1
  rw [nx_pos (by omega), cntE0_mk, this]
  omega
end Go.Ax
