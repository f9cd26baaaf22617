/- THE LAW FnRestricted: for every input the law returns true and leaves its arguments as they were. No condition. -/
import Derived.Test.YtjnghfepojipiaaM77
import Derived.Test.YtjnghfepojipiaaEnH
import Derived.Test.YtjnghfepojipiaaRows
set_option linter.unusedSimpArgs false
set_option linter.unusedVariables false
set_option linter.unnecessarySimpa false
set_option linter.unusedSectionVars false

namespace Go.Proofs.Ytjnghfepojipiaa
open Go.Ax Go.ChangeShapes
set_option linter.unusedSimpArgs false

theorem Try.own : ownKnob Try.prog.godebug = none := by kernel_rfl
theorem Try.laidOut : laidOutB Try.prog = true := by kernel_rfl

theorem wf_u8 {m : Int} (h : (Lit.int .u8 m).wf = true) : 0 ≤ m ∧ m < 256 := by
 have h : (decide (_ ≤ m) && decide (m ≤ _)) = true := h
 simp only [Bool.and_eq_true, decide_eq_true_eq] at h
 have h1 : (0 : Int) ≤ m := h.1
 have h2 : m ≤ 255 := h.2
 omega
theorem rd5 (n : Nat) : Rd Try.prog n 5 eU (fun v => 0 ≤ v ∧ v < 256) := rd_map id (fun _ => rfl) (fun _ h => wf_u8 h) (rd_int Try.underlying5)
theorem rd90 : ∀ n : Nat, Rd Try.prog n 90 (eS 1 eU) (fun s => ∀ v ∈ s.2, 0 ≤ v ∧ v < 256)
 | 0 => rd_zero
 | n + 1 => rd_map id (fun _ => rfl) (fun _ h => h.2.2) (rd_slice (e := 5) (sz := 1) Try.underlying90 (by kernel_rfl) (by omega) (fun _ => rfl) (rd5 n))
theorem arg90 : Arg Try.prog 90 (eS 1 eU) (fun s => ∀ v ∈ s.2, 0 ≤ v ∧ v < 256) := ⟨rd90, .inr ⟨fun _ => rfl, by rw [Try.underlying90]⟩⟩

set_option maxRecDepth 100000 in
theorem law_lifted (os : Os) (started : os.Started) (H : Type) (enc : TypeId × Value → H) :
  ReturnsInHanded {} Try.checked os 10 .any (Rows.fnRestrictedSpec.pre6 enc Try.prog Try.f10 Rows.fnRestrictedRow.domain false) (Rows.fnRestrictedSpec.post enc Try.prog Try.f10 false true false false) := by
 refine lifted_true (C := Try.checked) Try.own started (by kernel_rfl) Try.func10 Try.laidOut rfl (t := 4) rfl Try.underlying4 (by decide +kernel) ?_
  (ChangeSpec.witness6 (enc := enc) (C := Try.checked) false ⟨#[], #[.slice none 0 0, .slice none 0 0], []⟩ 8 (by kernel_rfl) (by kernel_rfl) (by kernel_rfl) (by kernel_rfl)) ?_
 ·intro ds hd
  match ds, hd with
  | [a0, a1], _ => exact ⟨rfl, rfl, rfl⟩
 ·intro W b args ds ps ho h
  obtain ⟨x0, x1, hr, k0, k1⟩ := args_two arg90 arg90 ho h
  exact ⟨_, law x0 x1 k0 k1, hr⟩

theorem law_named : Try.checked.prog.funcNamed Rows.fnRestrictedRow.func = some 10 := by kernel_rfl
theorem law_facts : joinedFacts Try.checked.prog 10 Try.f10 Rows.fnRestrictedSpec Rows.fnRestrictedRow = true := by kernel_rfl
theorem law_inst : Try.f10.isInstance Try.checked.prog Rows.fnRestrictedRow.origin Rows.fnRestrictedRow.targs := of_decide_eq_true (by kernel_rfl)
theorem law_wrap : Try.f10.isWrapper Try.checked.prog Rows.fnRestrictedRow.wrapper Rows.fnRestrictedRow.mainSum := by
 unfold Func.isWrapper; first | (rw [if_pos (by decide +kernel)]; kernel_rfl) | (rw [if_neg (by decide +kernel)]; exact ⟨rfl, rfl⟩)
theorem law_holds : Rows.FnRestrictedSaid :=
 OpenClaim.holds_of_wide 10 Try.f10 rfl rfl rfl rfl rfl rfl rfl ⟨rfl, rfl, rfl, rfl, rfl⟩ rfl rfl rfl rfl rfl law_named Try.func10 law_facts law_inst law_wrap
  (fun os started H enc _ => law_lifted os started H enc)
#print axioms law_holds
end Go.Proofs.Ytjnghfepojipiaa
