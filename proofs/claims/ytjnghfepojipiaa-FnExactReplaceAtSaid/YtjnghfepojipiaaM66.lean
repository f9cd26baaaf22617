/- THE LAW FnExactReplaceAt: for every input the law returns true and leaves its arguments as they were. No condition. -/
import Derived.Test.YtjnghfepojipiaaM65
import Derived.Test.YtjnghfepojipiaaEnI
import Derived.Test.YtjnghfepojipiaaRows
set_option linter.unusedSimpArgs false
set_option linter.unusedVariables false
set_option linter.unnecessarySimpa false

namespace Go.Proofs.Ytjnghfepojipiaa
open Go.Ax Go.ChangeShapes
set_option linter.unusedSimpArgs false

theorem Try.own : ownKnob Try.prog.godebug = none := by kernel_rfl
theorem Try.laidOut : laidOutB Try.prog = true := by kernel_rfl

theorem rd2 (n : Nat) : Rd Try.prog n 2 eI (fun _ => True) := rd_map id (fun _ => rfl) (fun _ _ => trivial) (rd_int Try.underlying2)
theorem rd23 : ∀ n : Nat, Rd Try.prog n 23 eG (fun _ => True)
 | 0 => rd_zero
 | n + 1 => by
  have h1 := rdf_cell1 (off := 1) (g := ⟨"Actions", 2, 1, false, "", "", 8⟩) rfl (rd2 n)
  have h0 := rdf_cell (P := Try.prog) (n := n) (off := 0) (k := 1) (g := ⟨"Tests", 2, 0, false, "", "", 0⟩) rfl (by kernel_rfl) (rd2 n) h1
  exact rd_map id (fun _ => rfl) (fun _ _ => trivial) (rd_struct Try.underlying23 (by kernel_rfl) (by intro a d hd; simp only [List.mem_cons, List.mem_append, List.not_mem_nil, or_false, or_assoc] at hd; rcases hd with rfl | rfl <;> exact ⟨rfl, rfl⟩) h0)
theorem arg23 : Arg Try.prog 23 eG (fun _ => True) := ⟨rd23, .inl ⟨fun _ => rfl, _, Try.underlying23⟩⟩
theorem rdb44 : ∀ n : Nat, Rd Try.prog n 44 eE (fun _ => True) ∧ Rd Try.prog n 42 (eS 3 eE) (fun _ => True)
 | 0 => ⟨rd_zero, rd_zero⟩
 | n + 1 => by
  have ih := rdb44 n
  refine ⟨?_, ?_⟩
  ·have h2 := rdf_cell1 (off := 2) (g := ⟨"Kids", 42, 2, false, "", "", 16⟩) rfl ih.2
   have h1 := rdf_cell (P := Try.prog) (n := n) (off := 1) (k := 1) (g := ⟨"Num", 2, 1, false, "", "", 8⟩) rfl (by kernel_rfl) (rd2 n) h2
   have h0 := rdf_cell (P := Try.prog) (n := n) (off := 0) (k := 1) (g := ⟨"Kind", 2, 0, false, "", "", 0⟩) rfl (by kernel_rfl) (rd2 n) h1
   exact rd_map (fun x => Ex.mk x.1 x.2.1 x.2.2.1 x.2.2.2) (fun x => by rw [eE_mk]; rfl) (fun _ _ => trivial) (rd_struct Try.underlying44 (by kernel_rfl) (by intro a d hd; simp only [List.mem_cons, List.mem_append, List.not_mem_nil, or_false] at hd; rcases hd with rfl | rfl | rfl <;> exact ⟨rfl, rfl⟩) h0)
  ·exact rd_map id (fun _ => rfl) (fun _ _ => trivial) (rd_slice (e := 44) (sz := 3) Try.underlying42 (by kernel_rfl) (by omega) eE_size ih.1)
theorem rd44 (n : Nat) : Rd Try.prog n 44 eE (fun _ => True) := (rdb44 n).1
theorem rd42 (n : Nat) : Rd Try.prog n 42 (eS 3 eE) (fun _ => True) := (rdb44 n).2
theorem arg44 : Arg Try.prog 44 eE (fun _ => True) := ⟨rd44, .inl ⟨eE_isAg, _, Try.underlying44⟩⟩
theorem rd28 : ∀ n : Nat, Rd Try.prog n 28 (eS 1 eI) (fun _ => True)
 | 0 => rd_zero
 | n + 1 => rd_map id (fun _ => rfl) (fun _ _ => trivial) (rd_slice (e := 2) (sz := 1) Try.underlying28 (by kernel_rfl) (by omega) (fun _ => rfl) (rd2 n))
theorem arg28 : Arg Try.prog 28 (eS 1 eI) (fun _ => True) := ⟨rd28, .inr ⟨fun _ => rfl, by rw [Try.underlying28]⟩⟩

set_option maxRecDepth 100000 in
theorem law_lifted (os : Os) (started : os.Started) (H : Type) (enc : TypeId × Value → H) :
  ReturnsInHanded {} Try.checked os 7 .any (Rows.fnExactReplaceAtSpec.pre6 enc Try.prog Try.f7 Rows.fnExactReplaceAtRow.domain false) (Rows.fnExactReplaceAtSpec.post enc Try.prog Try.f7 false true false false) := by
 refine lifted_true (C := Try.checked) Try.own started (by kernel_rfl) Try.func7 Try.laidOut rfl (t := 4) rfl Try.underlying4 (by decide +kernel) ?_
  (ChangeSpec.witness6 (enc := enc) (C := Try.checked) false ⟨#[], #[.agg #[.int .i64 0, .int .i64 0], .agg #[.int .i64 0, .int .i64 0, .slice none 0 0], .slice none 0 0, .agg #[.int .i64 0, .int .i64 0, .slice none 0 0]], []⟩ 8 (by kernel_rfl) (by kernel_rfl) (by kernel_rfl) (by kernel_rfl)) ?_
 ·intro ds hd
  match ds, hd with
  | [a0, a1, a2, a3], _ => exact ⟨rfl, rfl, rfl⟩
 ·intro W b args ds ps ho h
  obtain ⟨x0, x1, x2, x3, hr, _⟩ := args_four arg23 arg44 arg28 arg44 ho h
  exact ⟨_, law x0 x1 x2 x3, hr⟩

theorem law_named : Try.checked.prog.funcNamed Rows.fnExactReplaceAtRow.func = some 7 := by kernel_rfl
theorem law_facts : joinedFacts Try.checked.prog 7 Try.f7 Rows.fnExactReplaceAtSpec Rows.fnExactReplaceAtRow = true := by kernel_rfl
theorem law_inst : Try.f7.isInstance Try.checked.prog Rows.fnExactReplaceAtRow.origin Rows.fnExactReplaceAtRow.targs := of_decide_eq_true (by kernel_rfl)
theorem law_wrap : Try.f7.isWrapper Try.checked.prog Rows.fnExactReplaceAtRow.wrapper Rows.fnExactReplaceAtRow.mainSum := by
 unfold Func.isWrapper; first | (rw [if_pos (by decide +kernel)]; kernel_rfl) | (rw [if_neg (by decide +kernel)]; exact ⟨rfl, rfl⟩)
theorem law_holds : Rows.FnExactReplaceAtSaid :=
 OpenClaim.holds_of_wide 7 Try.f7 rfl rfl rfl rfl rfl rfl rfl ⟨rfl, rfl, rfl, rfl, rfl⟩ rfl rfl rfl rfl rfl law_named Try.func7 law_facts law_inst law_wrap
  (fun os started H enc _ => law_lifted os started H enc)
#print axioms law_holds
end Go.Proofs.Ytjnghfepojipiaa
