/- Contracts of functions of the seat, proved over the engine. No condition. -/
import Derived.Test.YtbnlielpckndkaaX40
import Derived.Test.YtbnlielpckndkaaX8
import Derived.Test.YtbnlielpckndkaaX4
import Derived.Test.YtbnlielpckndkaaX31
set_option linter.unusedSimpArgs false
set_option linter.unusedVariables false
set_option linter.unnecessarySimpa false
namespace Go.Ax
set_option linter.unusedSimpArgs false
set_option maxRecDepth 20000
set_option maxHeartbeats 4000000
def actOf (m : Mo) (v : Int) : SL (SL Bool) := m.2.2.2.2.getD v.toNat (none, [])
def diagR (f : Nat → Bool) : Rel := fun x y => x == y && f x
def noneR : Rel := fun _ _ => false
structure MoOk (m : Mo) (n : Nat) : Prop where
  pts : m.2.1 = (n : Int)
  n1 : 1 ≤ n
  n8 : n ≤ 8
  g : okG m.1 = true
  tl : (m.2.2.1.2.length : Int) = m.1.1
  tr : ∀ r ∈ m.2.2.1.2, r.2.length = n
  al : (m.2.2.2.2.length : Int) = m.1.2
  asq : ∀ a ∈ m.2.2.2.2, Sq n a
theorem isIn_iff' {x lo hi : Int} : isIn x lo hi = true ↔ lo ≤ x ∧ x ≤ hi := by simp [isIn]
theorem okMo_ok {m : Mo} (h : okMo m = true) : ∃ n, MoOk m n := by
  have hp := okMo_pts h
  simp only [okMo, testsOk, actsOk, tabOk, Bool.and_eq_true, List.all_eq_true, lenIs, beq_iff_eq] at h
  obtain ⟨⟨hg, _, ht, htr⟩, ha, har⟩ := h
  exact ⟨m.2.1.toNat, by omega, by omega, by omega, hg, ht, fun r hr => by have := htr r hr; omega, ha, fun a hx => ⟨by have := (har a hx).1; omega, fun r hr => by have := (har a hx).2 r hr; omega⟩⟩
theorem nat_lt_of' {x : Int} {n : Nat} (h0 : 0 ≤ x) (h : x.toNat < n) : x < (n : Int) := by omega
theorem getD_mem {α : Type} {l : List α} {i : Nat} {d : α} (h : i < l.length) : l.getD i d ∈ l := by simp [h]

def diagF (f : Nat → Bool) (i : Nat) : Rel := fun a b => decide (a < i) && (a == b && f a)
theorem diagF_zero {f : Nat → Bool} : diagF f 0 = noneR := by funext a b; simp [diagF, noneR]
theorem diagF_full {n : Nat} {f : Nat → Bool} : rD n (diagF f n) = rD n (diagR f) := rD_congr fun a b ha _ => by simp [diagF, diagR, ha]
theorem diagF_step {f : Nat → Bool} {i : Nat} : setR (diagF f i) i i (f i) = diagF f (i + 1) := by
  funext a b; unfold setR diagF
  by_cases ha : a = i
  · subst ha
    by_cases hb : b = a
    · subst hb; simp
    · simp [hb, show ¬ a = b from fun e => hb e.symm]
  · simp [ha, show decide (a < i + 1) = decide (a < i) by rw [decide_eq_decide]; omega]
theorem noneR_eq : (fun _ _ => false : Rel) = noneR := rfl
theorem dotR_tab {n : Nat} {A B : Rel} : rD n (dotR n (relOf (rTab n A)) (relOf (rTab n B))) = rD n (dotR n A B) := rD_congr fun _ _ hx hy => dotU_congr (fun _ hk => relOf_tab hx hk) (fun _ hk => relOf_tab hk hy)
theorem comp_D {P : Program} {f : Nat} (h : K_composed P f) {n : Nat} {A B : Rel} (hn : n ≤ 1000) : AF P f [.ls (some false) 1 (rD n A), .ls (some false) 1 (rD n B)] (.own (.ls (some false) 1 (rD n (dotR n A B)))) := by
  have := h n (rTab n A) (rTab n B) hn rTab_sq rTab_sq
  rw [rD_eq, rD_eq, rD_eq] at this
  rw [dotR_tab] at this
  exact this
end Go.Ax
