/- THE LAW FnExactWordModel: for every input the law returns true and leaves its arguments as they were. No condition. -/
import Derived.Test.YthcgldjelbmjgaaM41
import Derived.Test.YthcgldjelbmjgaaEnG
import Derived.Test.YthcgldjelbmjgaaRows
set_option linter.unusedSimpArgs false
set_option linter.unusedVariables false
set_option linter.unnecessarySimpa false

namespace Go.Proofs.Ythcgldjelbmjgaa
open Go.Ax Go.ChangeShapes
set_option linter.unusedSimpArgs false

theorem Try.own : ownKnob Try.prog.godebug = none := by kernel_rfl
theorem Try.laidOut : laidOutB Try.prog = true := by kernel_rfl

theorem rd2 (n : Nat) : Rd Try.prog n 2 eI (fun _ => True) := rd_map id (fun _ => rfl) (fun _ _ => trivial) (rd_int Try.underlying2)
theorem rd23 : ∀ n : Nat, Rd Try.prog n 23 eG (fun _ => True)
  | 0 => rd_zero
  | n + 1 => by
    have h1 := rdf_cell1 (off := 1) (g := ⟨"Actions", 2, 1, false, "", "", 8⟩) rfl (rd2 n)
    have h0 := rdf_cell (P := Try.prog) (n := n) (off := 0) (k := 1) (g := ⟨"Tests", 2, 0, false, "", "", 0⟩) rfl (by kernel_rfl) (rd2 n) h1
    exact rd_map id (fun _ => rfl) (fun _ _ => trivial) (rd_struct Try.underlying23 (by kernel_rfl) (by intro a d hd; simp only [List.mem_cons, List.mem_append, List.not_mem_nil, or_false, or_assoc] at hd; rcases hd with rfl | rfl <;> exact ⟨rfl, rfl⟩) h0)
theorem arg23 : Arg Try.prog 23 eG (fun _ => True) := ⟨rd23, .inl ⟨fun _ => rfl, _, Try.underlying23⟩⟩
theorem rd31 : ∀ n : Nat, Rd Try.prog n 31 (eS 1 eI) (fun _ => True)
  | 0 => rd_zero
  | n + 1 => rd_map id (fun _ => rfl) (fun _ _ => trivial) (rd_slice (e := 2) (sz := 1) Try.underlying31 (by kernel_rfl) (by omega) (fun _ => rfl) (rd2 n))
theorem rd81 : ∀ n : Nat, Rd Try.prog n 81 eWo (fun _ => True)
  | 0 => rd_zero
  | n + 1 => by
    have h1 := rdf_cell1 (off := 1) (g := ⟨"Acts", 31, 1, false, "", "", 24⟩) rfl (rd31 n)
    have h0 := rdf_cell (P := Try.prog) (n := n) (off := 0) (k := 1) (g := ⟨"Atoms", 31, 0, false, "", "", 0⟩) rfl (by kernel_rfl) (rd31 n) h1
    exact rd_map id (fun _ => rfl) (fun _ _ => trivial) (rd_struct Try.underlying81 (by kernel_rfl) (by intro a d hd; simp only [List.mem_cons, List.mem_append, List.not_mem_nil, or_false, or_assoc] at hd; rcases hd with rfl | rfl <;> exact ⟨rfl, rfl⟩) h0)
theorem arg81 : Arg Try.prog 81 eWo (fun _ => True) := ⟨rd81, .inl ⟨fun _ => rfl, _, Try.underlying81⟩⟩

set_option maxRecDepth 100000 in
theorem law_lifted (os : Os) (started : os.Started) (H : Type) (enc : TypeId × Value → H) :
    ReturnsInHanded {} Try.checked os 8 .any (Rows.fnExactWordModelSpec.pre6 enc Try.prog Try.f8 Rows.fnExactWordModelRow.domain false) (Rows.fnExactWordModelSpec.post enc Try.prog Try.f8 false true false false) := by
  refine lifted_true (C := Try.checked) Try.own started (by kernel_rfl) Try.func8 Try.laidOut rfl (t := 4) rfl Try.underlying4 (by decide +kernel) ?_
    (ChangeSpec.witness6 (enc := enc) (C := Try.checked) false ⟨#[], #[.agg #[.int .i64 0, .int .i64 0], .agg #[.slice none 0 0, .slice none 0 0]], []⟩ 8 (by kernel_rfl) (by kernel_rfl) (by kernel_rfl) (by kernel_rfl)) ?_
  · intro ds hd
    match ds, hd with
    | [a0, a1], _ => exact ⟨rfl, rfl, rfl⟩
  · intro W b args ds ps ho h
    obtain ⟨x0, x1, hr, _⟩ := args_two arg23 arg81 ho h
    exact ⟨_, law x0 x1, hr⟩

theorem law_named : Try.checked.prog.funcNamed Rows.fnExactWordModelRow.func = some 8 := by kernel_rfl
theorem law_facts : joinedFacts Try.checked.prog 8 Try.f8 Rows.fnExactWordModelSpec Rows.fnExactWordModelRow = true := by kernel_rfl
theorem law_inst : Try.f8.isInstance Try.checked.prog Rows.fnExactWordModelRow.origin Rows.fnExactWordModelRow.targs := of_decide_eq_true (by kernel_rfl)
theorem law_wrap : Try.f8.isWrapper Try.checked.prog Rows.fnExactWordModelRow.wrapper Rows.fnExactWordModelRow.mainSum := by
  unfold Func.isWrapper; first | (rw [if_pos (by decide +kernel)]; kernel_rfl) | (rw [if_neg (by decide +kernel)]; exact ⟨rfl, rfl⟩)
theorem law_holds : Rows.FnExactWordModelSaid :=
  OpenClaim.holds_of_wide 8 Try.f8 rfl rfl rfl rfl rfl rfl rfl ⟨rfl, rfl, rfl, rfl, rfl⟩ rfl rfl rfl rfl rfl law_named Try.func8 law_facts law_inst law_wrap
    (fun os started H enc _ => law_lifted os started H enc)
#print axioms law_holds
end Go.Proofs.Ythcgldjelbmjgaa
