/- THE LAW FnExactRenumberModel: for every input the law returns true and leaves its arguments as they were. No condition. -/
import Derived.Test.YtjnghfepojipiaaM63
import Derived.Test.YtjnghfepojipiaaEnJ
import Derived.Test.YtjnghfepojipiaaRows
set_option linter.unusedSimpArgs false
set_option linter.unusedVariables false
set_option linter.unnecessarySimpa false

namespace Go.Proofs.Ytjnghfepojipiaa
open Go.Ax Go.ChangeShapes
set_option linter.unusedSimpArgs false

theorem Try.own : ownKnob Try.prog.godebug = none := by kernel_rfl
theorem Try.laidOut : laidOutB Try.prog = true := by kernel_rfl

theorem rd2 (n : Nat) : Rd Try.prog n 2 eI (fun _ => True) := rd_map id (fun _ => rfl) (fun _ _ => trivial) (rd_int Try.underlying2)
theorem rd23 : ∀ n : Nat, Rd Try.prog n 23 eG (fun _ => True)
 | 0 => rd_zero
 | n + 1 => by
  have h1 := rdf_cell1 (off := 1) (g := ⟨"Actions", 2, 1, false, "", "", 8⟩) rfl (rd2 n)
  have h0 := rdf_cell (P := Try.prog) (n := n) (off := 0) (k := 1) (g := ⟨"Tests", 2, 0, false, "", "", 0⟩) rfl (by kernel_rfl) (rd2 n) h1
  exact rd_map id (fun _ => rfl) (fun _ _ => trivial) (rd_struct Try.underlying23 (by kernel_rfl) (by intro a d hd; simp only [List.mem_cons, List.mem_append, List.not_mem_nil, or_false, or_assoc] at hd; rcases hd with rfl | rfl <;> exact ⟨rfl, rfl⟩) h0)
theorem rd4 (n : Nat) : Rd Try.prog n 4 eB (fun _ => True) := rd_map id (fun _ => rfl) (fun _ _ => trivial) (rd_bool Try.underlying4)
theorem rd107 : ∀ n : Nat, Rd Try.prog n 107 (eS 1 eB) (fun _ => True)
 | 0 => rd_zero
 | n + 1 => rd_map id (fun _ => rfl) (fun _ _ => trivial) (rd_slice (e := 4) (sz := 1) Try.underlying107 (by kernel_rfl) (by omega) (fun _ => rfl) (rd4 n))
theorem rd24 : ∀ n : Nat, Rd Try.prog n 24 (eS 1 (eS 1 eB)) (fun _ => True)
 | 0 => rd_zero
 | n + 1 => rd_map id (fun _ => rfl) (fun _ _ => trivial) (rd_slice (e := 107) (sz := 1) Try.underlying24 (by kernel_rfl) (by omega) (fun _ => rfl) (rd107 n))
theorem rd25 : ∀ n : Nat, Rd Try.prog n 25 (eS 1 (eS 1 (eS 1 eB))) (fun _ => True)
 | 0 => rd_zero
 | n + 1 => rd_map id (fun _ => rfl) (fun _ _ => trivial) (rd_slice (e := 24) (sz := 1) Try.underlying25 (by kernel_rfl) (by omega) (fun _ => rfl) (rd24 n))
theorem rd27 : ∀ n : Nat, Rd Try.prog n 27 eM (fun _ => True)
 | 0 => rd_zero
 | n + 1 => by
  have h3 := rdf_cell1 (off := 4) (g := ⟨"Acts", 25, 4, false, "", "", 48⟩) rfl (rd25 n)
  have h2 := rdf_cell (P := Try.prog) (n := n) (off := 3) (k := 1) (g := ⟨"Tests", 24, 3, false, "", "", 24⟩) rfl (by kernel_rfl) (rd24 n) h3
  have h1 := rdf_cell (P := Try.prog) (n := n) (off := 2) (k := 1) (g := ⟨"Points", 2, 2, false, "", "", 16⟩) rfl (by kernel_rfl) (rd2 n) h2
  have h0 := rdf_ag (P := Try.prog) (n := n) (off := 0) (k := 2) (g := ⟨"Sig", 23, 0, false, "", "", 0⟩) rfl (by kernel_rfl) (rd23 n) h1
  exact rd_map id (fun _ => rfl) (fun _ _ => trivial) (rd_struct Try.underlying27 (by kernel_rfl) (by intro a d hd; simp only [List.mem_cons, List.mem_append, List.not_mem_nil, or_false, or_assoc] at hd; rcases hd with rfl | rfl | rfl | rfl | rfl <;> exact ⟨rfl, rfl⟩) h0)
theorem arg27 : Arg Try.prog 27 eM (fun _ => True) := ⟨rd27, .inl ⟨fun _ => rfl, _, Try.underlying27⟩⟩
theorem rd28 : ∀ n : Nat, Rd Try.prog n 28 (eS 1 eI) (fun _ => True)
 | 0 => rd_zero
 | n + 1 => rd_map id (fun _ => rfl) (fun _ _ => trivial) (rd_slice (e := 2) (sz := 1) Try.underlying28 (by kernel_rfl) (by omega) (fun _ => rfl) (rd2 n))
theorem arg28 : Arg Try.prog 28 (eS 1 eI) (fun _ => True) := ⟨rd28, .inr ⟨fun _ => rfl, by rw [Try.underlying28]⟩⟩

set_option maxRecDepth 100000 in
theorem law_lifted (os : Os) (started : os.Started) (H : Type) (enc : TypeId × Value → H) :
  ReturnsInHanded {} Try.checked os 3 .any (Rows.fnExactRenumberModelSpec.pre6 enc Try.prog Try.f3 Rows.fnExactRenumberModelRow.domain false) (Rows.fnExactRenumberModelSpec.post enc Try.prog Try.f3 false true false false) := by
 refine lifted_true (C := Try.checked) Try.own started (by kernel_rfl) Try.func3 Try.laidOut rfl (t := 4) rfl Try.underlying4 (by decide +kernel) ?_
  (ChangeSpec.witness6 (enc := enc) (C := Try.checked) false ⟨#[], #[.agg #[.int .i64 0, .int .i64 0, .int .i64 0, .slice none 0 0, .slice none 0 0], .slice none 0 0], []⟩ 8 (by kernel_rfl) (by kernel_rfl) (by kernel_rfl) (by kernel_rfl)) ?_
 ·intro ds hd
  match ds, hd with
  | [a0, a1], _ => exact ⟨rfl, rfl, rfl⟩
 ·intro W b args ds ps ho h
  obtain ⟨x0, x1, hr, _⟩ := args_two arg27 arg28 ho h
  exact ⟨_, law x0 x1, hr⟩

theorem law_named : Try.checked.prog.funcNamed Rows.fnExactRenumberModelRow.func = some 3 := by kernel_rfl
theorem law_facts : joinedFacts Try.checked.prog 3 Try.f3 Rows.fnExactRenumberModelSpec Rows.fnExactRenumberModelRow = true := by kernel_rfl
theorem law_inst : Try.f3.isInstance Try.checked.prog Rows.fnExactRenumberModelRow.origin Rows.fnExactRenumberModelRow.targs := of_decide_eq_true (by kernel_rfl)
theorem law_wrap : Try.f3.isWrapper Try.checked.prog Rows.fnExactRenumberModelRow.wrapper Rows.fnExactRenumberModelRow.mainSum := by
 unfold Func.isWrapper; first | (rw [if_pos (by decide +kernel)]; kernel_rfl) | (rw [if_neg (by decide +kernel)]; exact ⟨rfl, rfl⟩)
theorem law_holds : Rows.FnExactRenumberModelSaid :=
 OpenClaim.holds_of_wide 3 Try.f3 rfl rfl rfl rfl rfl rfl rfl ⟨rfl, rfl, rfl, rfl, rfl⟩ rfl rfl rfl rfl rfl law_named Try.func3 law_facts law_inst law_wrap
  (fun os started H enc _ => law_lifted os started H enc)
#print axioms law_holds
end Go.Proofs.Ytjnghfepojipiaa
