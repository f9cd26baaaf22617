/- THE LAW FnWordRuns: for every input the law returns true and leaves its arguments as they were. No condition. -/
import Derived.Test.YtjnghfepojipiaaM79
import Derived.Test.YtjnghfepojipiaaEnI
import Derived.Test.YtjnghfepojipiaaRows
set_option linter.unusedSimpArgs false
set_option linter.unusedVariables false
set_option linter.unnecessarySimpa false
set_option linter.unusedSectionVars false

namespace Go.Proofs.Ytjnghfepojipiaa
open Go.Ax Go.ChangeShapes
set_option linter.unusedSimpArgs false

theorem Try.own : ownKnob Try.prog.godebug = none := by kernel_rfl
theorem Try.laidOut : laidOutB Try.prog = true := by kernel_rfl

theorem Nq {m : Int} (h : (Lit.int .u8 m).wf = true) : 0 ≤ m ∧ m < 256 := by
 have h : (decide (_ ≤ m) && decide (m ≤ _)) = true := h
 simp only [Bool.and_eq_true, decide_eq_true_eq] at h
 have h1 : (0 : Int) ≤ m := h.1
 have h2 : m ≤ 255 := h.2
 omega
theorem rd5 (n : Nat) : Rd Try.prog n 5 eU (fun v => 0 ≤ v ∧ v < 256) := ET id (fun _ => rfl) (fun _ h => Nq h) (Ia Try.underlying5)
theorem Ve : ∀ n : Nat, Rd Try.prog n 90 (eS 1 eU) (fun s => ∀ v ∈ s.2, 0 ≤ v ∧ v < 256)
 | 0 => Fr
 | n + 1 => ET id (fun _ => rfl) (fun _ h => h.2.2) (D4 (e := 5) (sz := 1) Try.underlying90 (by kernel_rfl) (by omega) (fun _ => rfl) (rd5 n))
theorem Hf : SO Try.prog 90 (eS 1 eU) (fun s => ∀ v ∈ s.2, 0 ≤ v ∧ v < 256) := ⟨Ve, .inr ⟨fun _ => rfl, by rw [Try.underlying90]⟩⟩

set_option maxRecDepth 100000 in
theorem Ai (os : Os) (started : os.Started) (H : Type) (enc : TypeId × Value → H) :
  ReturnsInHanded {} Try.checked os 13 .any (Rows.fnWordRunsSpec.pre6 enc Try.prog Try.f13 Rows.fnWordRunsRow.domain false) (Rows.fnWordRunsSpec.post enc Try.prog Try.f13 false true false false) := by
 refine yc (C := Try.checked) Try.own started (by kernel_rfl) Try.func13 Try.laidOut rfl (t := 4) rfl Try.underlying4 (by decide +kernel) ?_
  (ChangeSpec.witness6 (enc := enc) (C := Try.checked) false ⟨#[], #[.slice none 0 0, .slice none 0 0], []⟩ 8 (by kernel_rfl) (by kernel_rfl) (by kernel_rfl) (by kernel_rfl)) ?_
 ·intro ds hd
  match ds, hd with
  | [a0, a1], _ => exact ⟨rfl, rfl, rfl⟩
 ·intro W b args ds ps ho h
  obtain ⟨x0, x1, hr, k0, k1⟩ := E0 Hf Hf ho h
  exact ⟨_, law x0 x1 k0 k1, hr⟩

theorem CC : Try.checked.prog.funcNamed Rows.fnWordRunsRow.func = some 13 := by kernel_rfl
theorem Ca : joinedFacts Try.checked.prog 13 Try.f13 Rows.fnWordRunsSpec Rows.fnWordRunsRow = true := by kernel_rfl
theorem D9 : Try.f13.isInstance Try.checked.prog Rows.fnWordRunsRow.origin Rows.fnWordRunsRow.targs := of_decide_eq_true (by kernel_rfl)
theorem EX : Try.f13.isWrapper Try.checked.prog Rows.fnWordRunsRow.wrapper Rows.fnWordRunsRow.mainSum := by
 unfold Func.isWrapper; first | (rw [if_pos (by decide +kernel)]; kernel_rfl) | (rw [if_neg (by decide +kernel)]; exact ⟨rfl, rfl⟩)
theorem law_holds : Rows.FnWordRunsSaid :=
 OpenClaim.holds_of_wide 13 Try.f13 rfl rfl rfl rfl rfl rfl rfl ⟨rfl, rfl, rfl, rfl, rfl⟩ rfl rfl rfl rfl rfl CC Try.func13 Ca D9 EX
  (fun os started H enc _ => Ai os started H enc)
#print axioms law_holds
end Go.Proofs.Ytjnghfepojipiaa
