/- Contracts of functions of the seat, proved over the engine. No condition. -/
import Derived.Test.YthcgldjelbmjgaaX61
import Derived.Shelf.Spec.SlicesGrow
set_option linter.unusedSimpArgs false
set_option linter.unusedVariables false
set_option linter.unnecessarySimpa false
namespace Go.Ax
open Go.Proofs Go.Shelf

def opOth : ROp → List Oper
  | .other o => [o]
  | _ => []
def RC.oths : RC → List Oper
  | .reg _ ops => ops.flatMap fun r => opOth r.op
  | .seq a b => a.oths ++ b.oths
  | .cond _ a b => a.oths ++ b.oths
  | .blk _ c => c.oths
  | .loop c => c.oths
  | _ => []
def othF (P : Program) (i k : Nat) : Oper := match resF P i with
  | some (_, c, _) => c.oths.getD k default
  | none => default

def oneB (P : Program) (t : TypeId) : Bool := match P.info? t with
  | some i => (match i.zero with
    | some z => i.size == 1 && (i.bytes == 1 && z.cells.size == 1)
    | none => false)
  | none => false
theorem oneB_ok {P : Program} {t : TypeId} (h : oneB P t = true) : ∃ i z, P.info? t = some i ∧ i.zero = some z ∧ i.size = 1 ∧ i.bytes = 1 ∧ z.cells.size = 1 := by
  unfold oneB at h
  split at h
  · next i hi =>
    split at h
    · next z hz =>
      simp only [Bool.and_eq_true, beq_iff_eq] at h
      exact ⟨i, z, hi, hz, h.1, h.2.1, h.2.2⟩
    · cases h
  · cases h

theorem grow_K {P : Program} {ρ : Ren} (L : Lays8.n4 P ρ) (hk : oneB P (ρ.t 25) = true) : K_growB P (ρ.f 4) := by
  intro n h0 h1
  obtain ⟨i0, z, hi0, hz0, hs0, hb0, hzs⟩ := oneB_ok hk
  refine ⟨?_, fun w vs old ha => ?_⟩
  · obtain ⟨nm, q1, q2⟩ := L.f4
    exact ⟨_, q2, rfl, q1⟩
  simp only [ArgsRep, Rep, eI, D.fits] at ha
  obtain ⟨v1, r1, F1, rfl, hv1, f1, _, v2, r2, F2, rfl, ⟨_, hv2, _⟩, f2, _, rfl⟩ := ha
  have e1 : v1 = .slice none 0 0 := by
    rcases hv1 with ⟨p, q1, _, _, _, q2⟩ | ⟨b, off, cap, c, e, fr, F', q1, _, q2, _⟩
    · cases p with
      | some p => exact absurd rfl (q2 rfl)
      | none =>
        rw [cells_one f1] at q1
        simpa using q1
    · exact absurd rfl q2
  have e2 : v2 = .int .i64 n := by
    rw [cells_one f2] at hv2
    simpa using hv2
  subst e1 e2
  have h := Any8.slices_Grow_grow L i0 z hi0 hz0 (by omega) none 0 0 n [] w (Nat.le_refl _) (by omega) (by rw [hb0]; omega) (by omega) (by simp) (fun _ => rfl) (by simp)
  refine Calls.mono h ?_
  rintro e w' ⟨rfl, rfl⟩
  refine ⟨_, [w.heap.size], [], rfl, ?_, ?_, by simp, ?_, by simp⟩
  · exact ((Go.RowKit.Below.refl _ w).drew).alloc (Nat.le_refl _) _
  · simp only [RetRep, Rep, D.fits, true_and]
    refine ⟨.inr ⟨w.heap.size, 0, _, _, _, (0, 0), [], rfl, rfl, by simp, Nat.zero_le _, Nat.zero_le _, heap_alloc_new w.drew _, ?_, by simp, by simp [RepL]⟩, rfl⟩
    have := grownCap_ge w (0 + n) 0 (ρ.t 25)
    simp only [Array.size_append, List.size_toArray, size_zeroCells, hzs]
    simp
    omega
  · intro b hb
    simp only [List.mem_singleton] at hb
    subst hb
    exact ⟨Nat.le_refl _, by simp, _, _, heap_alloc_new w.drew _⟩
end Go.Ax
