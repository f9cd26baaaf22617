/- Contracts of functions of the seat, proved over the engine. No condition. -/
import Derived.Test.YthcgldjelbmjgaaX40
import Derived.Test.YthcgldjelbmjgaaX8
import Derived.Test.YthcgldjelbmjgaaX4
import Derived.Test.YthcgldjelbmjgaaX31
set_option linter.unusedSimpArgs false
set_option linter.unusedVariables false
set_option linter.unnecessarySimpa false
namespace Go.Ax
set_option linter.unusedSimpArgs false
set_option maxRecDepth 20000
set_option maxHeartbeats 4000000
def noneR : Rel := fun _ _ => false
structure MoOk (m : Mo) (n : Nat) : Prop where
  pts : m.2.1 = (n : Int)
  n1 : 1 ≤ n
  n8 : n ≤ 8
  g : okG m.1 = true
  tl : (m.2.2.1.2.length : Int) = m.1.1
  tr : ∀ r ∈ m.2.2.1.2, r.2.length = n
  al : (m.2.2.2.2.length : Int) = m.1.2
  asq : ∀ a ∈ m.2.2.2.2, Sq n a
theorem isIn_iff' {x lo hi : Int} : isIn x lo hi = true ↔ lo ≤ x ∧ x ≤ hi := by simp [isIn]
theorem nat_lt_of' {x : Int} {n : Nat} (h0 : 0 ≤ x) (h : x.toNat < n) : x < (n : Int) := by omega
theorem getD_mem {α : Type} {l : List α} {i : Nat} {d : α} (h : i < l.length) : l.getD i d ∈ l := by simp [h]

inductive KindOk (m : Mo) (k v : Int) (ks : List Ex) : Prop
  | zero (h : k = 1) (hk : ks = [])
  | one (h : k = 2) (hk : ks = [])
  | test (h : k = 3) (hk : ks = []) (h0 : 0 ≤ v) (h1 : v.toNat < m.2.2.1.2.length)
  | act (h : k = 4) (hk : ks = []) (h0 : 0 ≤ v) (h1 : v.toNat < m.2.2.2.2.length)
  | nt (h : k = 5) (a : Ex) (hk : ks = [a])
  | sum (h : k = 6) (a b : Ex) (hk : ks = [a, b])
  | dot (h : k = 7) (a b : Ex) (hk : ks = [a, b])
  | star (h : k = 8) (a : Ex) (hk : ks = [a])
theorem kind_ok {m : Mo} {n : Nat} (hM : MoOk m n) {k v : Int} {ks : List Ex} (h : formOk m.1 k v ks = true) : KindOk m k v ks := by
  have hg := hM.g
  have tl := hM.tl
  have al := hM.al
  simp only [okG, Bool.and_eq_true, isIn_iff'] at hg
  have hw1 : IntKind.i64.wrap (m.1.1 - 1) = m.1.1 - 1 := wrap_i64 (by omega) (by omega)
  have hw2 : IntKind.i64.wrap (m.1.2 - 1) = m.1.2 - 1 := wrap_i64 (by omega) (by omega)
  simp only [formOk, Bool.and_eq_true, beq_iff_eq, hw1, hw2] at h
  obtain ⟨hk, hv⟩ := h
  unfold kidsN at hk
  have e0 : ∀ {l : List Ex}, (0 : Int) = l.length → l = [] := fun h => List.eq_nil_of_length_eq_zero (by omega)
  have e1 : ∀ {l : List Ex}, (1 : Int) = l.length → ∃ a, l = [a] := fun {l} h => by
    match l, h with
    | [a], _ => exact ⟨a, rfl⟩
    | [], h => simp at h
    | _ :: _ :: _, h => simp at h; omega
  have e2 : ∀ {l : List Ex}, (2 : Int) = l.length → ∃ a b, l = [a, b] := fun {l} h => by
    match l, h with
    | [a, b], _ => exact ⟨a, b, rfl⟩
    | [], h => simp at h
    | [_], h => simp at h
    | _ :: _ :: _ :: _, h => simp at h; omega
  by_cases h1 : k = 1
  · subst h1; exact .zero rfl (e0 (by simpa using hk))
  by_cases h2 : k = 2
  · subst h2; exact .one rfl (e0 (by simpa using hk))
  by_cases h3 : k = 3
  · subst h3
    rw [if_pos rfl, isIn_iff'] at hv
    exact .test rfl (e0 (by simpa using hk)) hv.1 (by omega)
  by_cases h4 : k = 4
  · subst h4
    rw [if_neg (by omega), if_pos rfl, isIn_iff'] at hv
    exact .act rfl (e0 (by simpa using hk)) hv.1 (by omega)
  by_cases h5 : k = 5
  · subst h5; obtain ⟨a, hk⟩ := e1 (by simpa using hk); exact .nt rfl a hk
  by_cases h6 : k = 6
  · subst h6; obtain ⟨a, b, hk⟩ := e2 (by simpa using hk); exact .sum rfl a b hk
  by_cases h7 : k = 7
  · subst h7; obtain ⟨a, b, hk⟩ := e2 (by simpa using hk); exact .dot rfl a b hk
  by_cases h8 : k = 8
  · subst h8; obtain ⟨a, hk⟩ := e1 (by simpa using hk); exact .star rfl a hk
  simp [h1, h2, h3, h4, h5, h6, h7, h8] at hk
end Go.Ax
