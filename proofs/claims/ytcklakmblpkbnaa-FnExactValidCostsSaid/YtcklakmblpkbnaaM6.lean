/- THE LAW FnExactValidCosts: for every input the law returns true and leaves its arguments as they were. No condition. -/
import Derived.Test.YtcklakmblpkbnaaM5
import Derived.Test.YtcklakmblpkbnaaAxF
import Derived.Test.YtcklakmblpkbnaaRows
set_option linter.unusedSimpArgs false
set_option linter.unusedVariables false

namespace Go.Proofs.Ytcklakmblpkbnaa
open Go.Ax Go.ChangeShapes
set_option linter.unusedSimpArgs false

theorem Try.own : ownKnob Try.prog.godebug = none := by kernel_rfl
theorem Try.laidOut : laidOutB Try.prog = true := by kernel_rfl

theorem rd2 (n : Nat) : Rd Try.prog n 2 eI (fun _ => True) := rd_map id (fun _ => rfl) (fun _ _ => trivial) (rd_int Try.underlying2)
theorem rd23 : ∀ n : Nat, Rd Try.prog n 23 eG (fun _ => True)
  | 0 => rd_zero
  | n + 1 => by
    have h1 := rdf_cell1 (off := 1) (g := ⟨"Actions", 2, 1, false, "", "", 8⟩) rfl (rd2 n)
    have h0 := rdf_cell (P := Try.prog) (n := n) (off := 0) (k := 1) (g := ⟨"Tests", 2, 0, false, "", "", 0⟩) rfl (by kernel_rfl) (rd2 n) h1
    exact rd_map id (fun _ => rfl) (fun _ _ => trivial) (rd_struct Try.underlying23 (by kernel_rfl) (by intro a d hd; simp only [List.mem_cons, List.mem_append, List.not_mem_nil, or_false] at hd; rcases hd with rfl | rfl <;> exact ⟨rfl, rfl⟩) h0)
theorem rd4 (n : Nat) : Rd Try.prog n 4 eB (fun _ => True) := rd_map id (fun _ => rfl) (fun _ _ => trivial) (rd_bool Try.underlying4)
theorem rd202 : ∀ n : Nat, Rd Try.prog n 202 (eS 1 eB) (fun _ => True)
  | 0 => rd_zero
  | n + 1 => rd_map id (fun _ => rfl) (fun _ _ => trivial) (rd_slice (e := 4) (sz := 1) Try.underlying202 (by kernel_rfl) (by omega) (fun _ => rfl) (rd4 n))
theorem rd24 : ∀ n : Nat, Rd Try.prog n 24 (eS 1 (eS 1 eB)) (fun _ => True)
  | 0 => rd_zero
  | n + 1 => rd_map id (fun _ => rfl) (fun _ _ => trivial) (rd_slice (e := 202) (sz := 1) Try.underlying24 (by kernel_rfl) (by omega) (fun _ => rfl) (rd202 n))
theorem rd37 : ∀ n : Nat, Rd Try.prog n 37 (eS 1 eI) (fun _ => True)
  | 0 => rd_zero
  | n + 1 => rd_map id (fun _ => rfl) (fun _ _ => trivial) (rd_slice (e := 2) (sz := 1) Try.underlying37 (by kernel_rfl) (by omega) (fun _ => rfl) (rd2 n))
theorem rd38 : ∀ n : Nat, Rd Try.prog n 38 (eS 1 (eS 1 eI)) (fun _ => True)
  | 0 => rd_zero
  | n + 1 => rd_map id (fun _ => rfl) (fun _ _ => trivial) (rd_slice (e := 37) (sz := 1) Try.underlying38 (by kernel_rfl) (by omega) (fun _ => rfl) (rd37 n))
theorem rd69 : ∀ n : Nat, Rd Try.prog n 69 (eS 1 (eS 1 (eS 1 eI))) (fun _ => True)
  | 0 => rd_zero
  | n + 1 => rd_map id (fun _ => rfl) (fun _ _ => trivial) (rd_slice (e := 38) (sz := 1) Try.underlying69 (by kernel_rfl) (by omega) (fun _ => rfl) (rd38 n))
theorem rd71 : ∀ n : Nat, Rd Try.prog n 71 eCo (fun _ => True)
  | 0 => rd_zero
  | n + 1 => by
    have h3 := rdf_cell1 (off := 4) (g := ⟨"Acts", 69, 4, false, "", "", 48⟩) rfl (rd69 n)
    have h2 := rdf_cell (P := Try.prog) (n := n) (off := 3) (k := 1) (g := ⟨"Tests", 24, 3, false, "", "", 24⟩) rfl (by kernel_rfl) (rd24 n) h3
    have h1 := rdf_cell (P := Try.prog) (n := n) (off := 2) (k := 1) (g := ⟨"Points", 2, 2, false, "", "", 16⟩) rfl (by kernel_rfl) (rd2 n) h2
    have h0 := rdf_ag (P := Try.prog) (n := n) (off := 0) (k := 2) (g := ⟨"Sig", 23, 0, false, "", "", 0⟩) rfl (by kernel_rfl) (rd23 n) h1
    exact rd_map id (fun _ => rfl) (fun _ _ => trivial) (rd_struct Try.underlying71 (by kernel_rfl) (by intro a d hd; simp only [List.mem_cons, List.mem_append, List.not_mem_nil, or_false] at hd; rcases hd with rfl | rfl | rfl | rfl | rfl <;> exact ⟨rfl, rfl⟩) h0)
theorem arg71 : Arg Try.prog 71 eCo (fun _ => True) := ⟨rd71, .inl ⟨fun _ => rfl, _, Try.underlying71⟩⟩

set_option maxRecDepth 100000 in
theorem law_lifted (os : Os) (started : os.Started) (H : Type) (enc : TypeId × Value → H) :
    ReturnsInHanded {} Try.checked os 6 .any (Rows.fnExactValidCostsSpec.pre6 enc Try.prog Try.f6 Rows.fnExactValidCostsRow.domain false) (Rows.fnExactValidCostsSpec.post enc Try.prog Try.f6 false true false false) := by
  refine lifted_true (C := Try.checked) Try.own started (by kernel_rfl) Try.func6 Try.laidOut rfl (t := 4) rfl Try.underlying4 (by decide +kernel) ?_
    (ChangeSpec.witness6 (enc := enc) (C := Try.checked) false ⟨#[], #[.agg #[.int .i64 0, .int .i64 0, .int .i64 0, .slice none 0 0, .slice none 0 0]], []⟩ 8 (by kernel_rfl) (by kernel_rfl) (by kernel_rfl) (by kernel_rfl)) ?_
  · intro ds hd
    match ds, hd with
    | [a0], _ => exact ⟨rfl, rfl, rfl⟩
  · intro W b args ds ps ho h
    obtain ⟨x0, hr, _⟩ := args_one arg71 ho h
    exact ⟨_, law x0, hr⟩

theorem law_holds : Rows.FnExactValidCostsSaid :=
  OpenClaim.holds_of_wide 6 Try.f6 rfl rfl rfl rfl rfl rfl rfl ⟨rfl, rfl, rfl, rfl, rfl⟩ rfl rfl rfl rfl rfl (by kernel_rfl) Try.func6 (by kernel_rfl)
    (of_decide_eq_true (by kernel_rfl)) (by unfold Func.isWrapper; first | (rw [if_pos (by decide +kernel)]; kernel_rfl) | (rw [if_neg (by decide +kernel)]; exact ⟨rfl, rfl⟩))
    (fun os started H enc _ => law_lifted os started H enc)
#print axioms law_holds
end Go.Proofs.Ytcklakmblpkbnaa
