/- THE LAW FnCosts: for every input the law returns true and leaves its arguments as they were. No condition. -/
import Derived.Test.YtlmeadheakbmpaaM81
import Derived.Test.YtlmeadheakbmpaaEnI
import Derived.Test.YtlmeadheakbmpaaRows
set_option linter.unusedSimpArgs false
set_option linter.unusedVariables false
set_option linter.unnecessarySimpa false
set_option linter.unusedSectionVars false

namespace Go.Proofs.Ytlmeadheakbmpaa
open Go.Ax Go.ChangeShapes
set_option linter.unusedSimpArgs false

theorem Try.own : ownKnob Try.prog.godebug = none := by kernel_rfl
theorem Try.laidOut : laidOutB Try.prog = true := by kernel_rfl

theorem aga {m : Int} (h : (Lit.int .u8 m).wf = true) : 0 ≤ m ∧ m < 256 := by
 have h : (decide (_ ≤ m) && decide (m ≤ _)) = true := h
 simp only [Bool.and_eq_true, decide_eq_true_eq] at h
 have h1 : (0 : Int) ≤ m := h.1
 have h2 : m ≤ 255 := h.2
 omega
theorem rd5 (n : Nat) : Rd Try.prog n 5 eU (fun v => 0 ≤ v ∧ v < 256) := U7 id (fun _ => rfl) (fun _ h => aga h) (aeG Try.underlying5)
theorem akX : ∀ n : Nat, Rd Try.prog n 22 (eS 1 eU) (fun s => ∀ v ∈ s.2, 0 ≤ v ∧ v < 256)
 | 0 => abI
 | n + 1 => U7 id (fun _ => rfl) (fun _ h => h.2.2) (SQ (e := 5) (sz := 1) Try.underlying22 (by kernel_rfl) (by omega) (fun _ => rfl) (rd5 n))
theorem acn : Arg Try.prog 22 (eS 1 eU) (fun s => ∀ v ∈ s.2, 0 ≤ v ∧ v < 256) := ⟨akX, .inr ⟨fun _ => rfl, by rw [Try.underlying22]⟩⟩

set_option maxRecDepth 100000 in
theorem MY (os : Os) (started : os.Started) (H : Type) (enc : TypeId × Value → H) :
  ReturnsInHanded {} Try.checked os 3 .any (Rows.fnCostsSpec.pre6 enc Try.prog Try.f3 Rows.fnCostsRow.domain false) (Rows.fnCostsSpec.post enc Try.prog Try.f3 false true false false) := by
 refine Kj (C := Try.checked) Try.own started (by kernel_rfl) Try.func3 Try.laidOut rfl (t := 4) rfl Try.underlying4 (by decide +kernel) ?_
  (ChangeSpec.witness6 (enc := enc) (C := Try.checked) false ⟨#[], #[.slice none 0 0, .slice none 0 0], []⟩ 8 (by kernel_rfl) (by kernel_rfl) (by kernel_rfl) (by kernel_rfl)) ?_
 ·intro ds hd
  match ds, hd with
  | [a0, a1], _ => exact ⟨rfl, rfl, rfl⟩
 ·intro W b args ds ps ho h
  obtain ⟨x0, x1, hr, k0, k1⟩ := Uu acn acn ho h
  exact ⟨_, law x0 x1 k0 k1, hr⟩

theorem O4 : Try.checked.prog.funcNamed Rows.fnCostsRow.func = some 3 := by kernel_rfl
theorem Q5 : joinedFacts Try.checked.prog 3 Try.f3 Rows.fnCostsSpec Rows.fnCostsRow = true := by kernel_rfl
theorem SJ : Try.f3.isInstance Try.checked.prog Rows.fnCostsRow.origin Rows.fnCostsRow.targs := of_decide_eq_true (by kernel_rfl)
theorem S8 : Try.f3.isWrapper Try.checked.prog Rows.fnCostsRow.wrapper Rows.fnCostsRow.mainSum := by
 unfold Func.isWrapper; first | (rw [if_pos (by decide +kernel)]; kernel_rfl) | (rw [if_neg (by decide +kernel)]; exact ⟨rfl, rfl⟩)
theorem law_holds : Rows.FnCostsSaid :=
 OpenClaim.holds_of_wide 3 Try.f3 rfl rfl rfl rfl rfl rfl rfl ⟨rfl, rfl, rfl, rfl, rfl⟩ rfl rfl rfl rfl rfl O4 Try.func3 Q5 SJ S8
  (fun os started H enc _ => MY os started H enc)
#print axioms law_holds
end Go.Proofs.Ytlmeadheakbmpaa
