/- THE LAW FnExactFollowWord: for every input the law returns true and leaves its arguments as they were. No condition. -/
import Derived.Test.YtcklakmblpkbnaaM3
import Derived.Test.YtcklakmblpkbnaaAxF
import Derived.Test.YtcklakmblpkbnaaRows
set_option linter.unusedSimpArgs false
set_option linter.unusedVariables false

namespace Go.Proofs.Ytcklakmblpkbnaa
open Go.Ax Go.ChangeShapes
set_option linter.unusedSimpArgs false

theorem Try.own : ownKnob Try.prog.godebug = none := by kernel_rfl
theorem Try.laidOut : laidOutB Try.prog = true := by kernel_rfl

theorem rd2 (n : Nat) : Rd Try.prog n 2 eI (fun _ => True) := rd_map id (fun _ => rfl) (fun _ _ => trivial) (rd_int Try.underlying2)
theorem rd23 : ∀ n : Nat, Rd Try.prog n 23 eG (fun _ => True)
  | 0 => rd_zero
  | n + 1 => by
    have h1 := rdf_cell1 (off := 1) (g := ⟨"Actions", 2, 1, false, "", "", 8⟩) rfl (rd2 n)
    have h0 := rdf_cell (P := Try.prog) (n := n) (off := 0) (k := 1) (g := ⟨"Tests", 2, 0, false, "", "", 0⟩) rfl (by kernel_rfl) (rd2 n) h1
    exact rd_map id (fun _ => rfl) (fun _ _ => trivial) (rd_struct Try.underlying23 (by kernel_rfl) (by intro a d hd; simp only [List.mem_cons, List.mem_append, List.not_mem_nil, or_false] at hd; rcases hd with rfl | rfl <;> exact ⟨rfl, rfl⟩) h0)
theorem arg23 : Arg Try.prog 23 eG (fun _ => True) := ⟨rd23, .inl ⟨fun _ => rfl, _, Try.underlying23⟩⟩
theorem rd37 : ∀ n : Nat, Rd Try.prog n 37 (eS 1 eI) (fun _ => True)
  | 0 => rd_zero
  | n + 1 => rd_map id (fun _ => rfl) (fun _ _ => trivial) (rd_slice (e := 2) (sz := 1) Try.underlying37 (by kernel_rfl) (by omega) (fun _ => rfl) (rd2 n))
theorem rd38 : ∀ n : Nat, Rd Try.prog n 38 (eS 1 (eS 1 eI)) (fun _ => True)
  | 0 => rd_zero
  | n + 1 => rd_map id (fun _ => rfl) (fun _ _ => trivial) (rd_slice (e := 37) (sz := 1) Try.underlying38 (by kernel_rfl) (by omega) (fun _ => rfl) (rd37 n))
theorem rd40 : ∀ n : Nat, Rd Try.prog n 40 eW (fun _ => True)
  | 0 => rd_zero
  | n + 1 => by
    have h1 := rdf_cell1 (off := 1) (g := ⟨"Acts", 38, 1, false, "", "", 24⟩) rfl (rd38 n)
    have h0 := rdf_cell (P := Try.prog) (n := n) (off := 0) (k := 1) (g := ⟨"Atoms", 37, 0, false, "", "", 0⟩) rfl (by kernel_rfl) (rd37 n) h1
    exact rd_map id (fun _ => rfl) (fun _ _ => trivial) (rd_struct Try.underlying40 (by kernel_rfl) (by intro a d hd; simp only [List.mem_cons, List.mem_append, List.not_mem_nil, or_false] at hd; rcases hd with rfl | rfl <;> exact ⟨rfl, rfl⟩) h0)
theorem arg40 : Arg Try.prog 40 eW (fun _ => True) := ⟨rd40, .inl ⟨fun _ => rfl, _, Try.underlying40⟩⟩
theorem arg2 : Arg Try.prog 2 eI (fun _ => True) := ⟨rd2, .inr ⟨fun _ => rfl, by rw [Try.underlying2]⟩⟩
theorem rd42 : ∀ n : Nat, Rd Try.prog n 42 eWo (fun _ => True)
  | 0 => rd_zero
  | n + 1 => by
    have h1 := rdf_cell1 (off := 1) (g := ⟨"Acts", 37, 1, false, "", "", 24⟩) rfl (rd37 n)
    have h0 := rdf_cell (P := Try.prog) (n := n) (off := 0) (k := 1) (g := ⟨"Atoms", 37, 0, false, "", "", 0⟩) rfl (by kernel_rfl) (rd37 n) h1
    exact rd_map id (fun _ => rfl) (fun _ _ => trivial) (rd_struct Try.underlying42 (by kernel_rfl) (by intro a d hd; simp only [List.mem_cons, List.mem_append, List.not_mem_nil, or_false] at hd; rcases hd with rfl | rfl <;> exact ⟨rfl, rfl⟩) h0)
theorem arg42 : Arg Try.prog 42 eWo (fun _ => True) := ⟨rd42, .inl ⟨fun _ => rfl, _, Try.underlying42⟩⟩

set_option maxRecDepth 100000 in
theorem law_lifted (os : Os) (started : os.Started) (H : Type) (enc : TypeId × Value → H) :
    ReturnsInHanded {} Try.checked os 4 .any (Rows.fnExactFollowWordSpec.pre6 enc Try.prog Try.f4 Rows.fnExactFollowWordRow.domain false) (Rows.fnExactFollowWordSpec.post enc Try.prog Try.f4 false true false false) := by
  refine lifted_true (C := Try.checked) Try.own started (by kernel_rfl) Try.func4 Try.laidOut rfl (t := 4) rfl Try.underlying4 (by decide +kernel) ?_
    (ChangeSpec.witness6 (enc := enc) (C := Try.checked) false ⟨#[], #[.agg #[.int .i64 0, .int .i64 0], .agg #[.slice none 0 0, .slice none 0 0], .int .i64 0, .agg #[.slice none 0 0, .slice none 0 0]], []⟩ 8 (by kernel_rfl) (by kernel_rfl) (by kernel_rfl) (by kernel_rfl)) ?_
  · intro ds hd
    match ds, hd with
    | [a0, a1, a2, a3], _ => exact ⟨rfl, rfl, rfl⟩
  · intro W b args ds ps ho h
    obtain ⟨x0, x1, x2, x3, hr, _⟩ := args_four arg23 arg40 arg2 arg42 ho h
    exact ⟨_, law x0 x1 x2 x3, hr⟩

theorem law_holds : Rows.FnExactFollowWordSaid :=
  OpenClaim.holds_of_wide 4 Try.f4 rfl rfl rfl rfl rfl rfl rfl ⟨rfl, rfl, rfl, rfl, rfl⟩ rfl rfl rfl rfl rfl (by kernel_rfl) Try.func4 (by kernel_rfl)
    (of_decide_eq_true (by kernel_rfl)) (by unfold Func.isWrapper; first | (rw [if_pos (by decide +kernel)]; kernel_rfl) | (rw [if_neg (by decide +kernel)]; exact ⟨rfl, rfl⟩))
    (fun os started H enc _ => law_lifted os started H enc)
#print axioms law_holds
end Go.Proofs.Ytcklakmblpkbnaa
