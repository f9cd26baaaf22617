/- Contracts of functions of the seat, proved over the engine. No condition. -/
import Derived.Test.YtjnghfepojipiaaX91
set_option linter.unusedSimpArgs false
set_option linter.unusedVariables false
set_option linter.unnecessarySimpa false
namespace Go.Ax

theorem repL_one {h : Heap} {sz : Nat} : ∀ {ds : List D} {F : List Nat} {cs : List Value} {i : Nat}, RepL h ds F cs → (∀ d ∈ ds, d.size = sz) → (hi : i < ds.length) →
  ∃ A B C, F = A ++ (B ++ C) ∧ Rep h ds[i] B ((cs.drop (i * sz)).take sz) ∧
   ∀ (h' : Heap) (d' : D) (B' : List Nat) (cs' : List Value), (∀ b, b ∈ A ∨ b ∈ C → h'[b]? = h[b]?) → Rep h' d' B' cs' → d'.size = sz → RepL h' (ds.set i d') (A ++ (B' ++ C)) (cs.take (i * sz) ++ (cs' ++ cs.drop (i * sz + sz)))
 | [], F, cs, i, hr, hs, hi => by simp at hi
 | d :: ds, F, cs, 0, hr, hs, hi => by
  simp only [RepL] at hr
  obtain ⟨F1, F2, c1, c2, rfl, rfl, h1, h2⟩ := hr
  have hl : c1.length = sz := by rw [h1.length]; exact hs d (by simp)
  refine ⟨[], F1, F2, rfl, ?_, fun h' d' B' cs' hf hd hsz => ?_⟩
  ·simpa [hl] using h1
  ·simp only [List.set_cons_zero, RepL, List.nil_append, Nat.zero_mul, List.take_zero, Nat.zero_add]
   refine ⟨B', F2, cs', c2, rfl, by simp [hl], hd, ?_⟩
   exact h2.frame fun b hb => hf b (.inr hb)
 | d :: ds, F, cs, i + 1, hr, hs, hi => by
  simp only [RepL] at hr
  obtain ⟨F1, F2, c1, c2, rfl, rfl, h1, h2⟩ := hr
  have hl : c1.length = sz := by rw [h1.length]; exact hs d (by simp)
  obtain ⟨A, B, C, rfl, g1, g2⟩ := repL_one h2 (fun x hx => hs x (by simp [hx])) (by simpa using hi)
  have hm : (i + 1) * sz = sz + i * sz := by rw [Nat.add_mul]; omega
  have e1 : ∀ n, List.drop (sz + n) c1 = [] := fun n => List.drop_eq_nil_of_le (by omega)
  have e2 : ∀ n, List.take (sz + n) c1 = c1 := fun n => List.take_of_length_le (by omega)
  refine ⟨F1 ++ A, B, C, by simp, ?_, fun h' d' B' cs' hf hd hsz => ?_⟩
  ·simp only [List.getElem_cons_succ, hm]
   rw [List.drop_append]
   simpa [hl, e1] using g1
  ·simp only [List.set_cons_succ, RepL]
   refine ⟨F1, A ++ (B' ++ C), c1, _, by simp, ?_, h1.frame fun b hb => hf b (.inl (by simp [hb])), g2 h' d' B' cs' (fun b hb => hf b (by rcases hb with hb | hb <;> simp [hb])) hd hsz⟩
   rw [hm, List.take_append, List.drop_append]
   simp [hl, Nat.add_assoc, e1, e2]

def Loc (h : Heap) : List Int → List Value → Nat → Nat → Prop
 | [], _, _, _ => False
 | x :: xs, cs, b', o' => ∃ kb ko len cap c e fr, cs[2]? = some (.slice (some ⟨kb, ko, none⟩) len cap) ∧ h[kb]? = some (.cells c e fr) ∧
   ((xs = [] ∧ b' = kb ∧ o' = ko + x.toNat * 3) ∨ (xs ≠ [] ∧ Loc h xs ((c.toList.drop (ko + x.toNat * 3)).take 3) b' o'))
end Go.Ax
