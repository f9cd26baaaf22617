/- Contracts of functions of the seat, proved over the engine. No condition. -/
import Derived.Test.YtmeajebpmefjcaaV4
import Derived.Test.YtmeajebpmefjcaaAxC
import Derived.Test.YtmeajebpmefjcaaRows
namespace Go.Proofs.Ytmeajebpmefjcaa
open Go.Ax Go.ChangeShapes

theorem Try.own : ownKnob Try.prog.godebug = none := by kernel_rfl
theorem Try.laidOut : laidOutB Try.prog = true := by kernel_rfl

theorem rd3 (n : Nat) : Rd Try.prog n 3 eI (fun m => (Lit.int .i64 m).wf = true) := rd_int Try.underlying3
theorem rd2 (n : Nat) : Rd Try.prog n 2 eI (fun m => (Lit.int .i64 m).wf = true) := rd_int (by kernel_rfl)
theorem rd23 : ∀ n : Nat, Rd Try.prog n 23 eG (fun _ => True)
  | 0 => rd_zero
  | n + 1 => by
    have h1 := rdf_cell1 (g := ⟨"Actions", 2, 1, false, "", "", 8⟩) (off := 1) rfl (rd2 n)
    have hf := rdf_cell (P := Try.prog) (n := n) (off := 0) (k := 1) (g := ⟨"Tests", 2, 0, false, "", "", 0⟩) rfl (by kernel_rfl) (rd2 n) h1
    exact rd_map id (fun _ => rfl) (fun _ _ => trivial) (rd_struct Try.underlying23 (by kernel_rfl) (by intro a d hd; simp at hd; rcases hd with rfl | rfl <;> exact ⟨rfl, rfl⟩) hf)
theorem rd24 : ∀ n : Nat, Rd Try.prog n 24 (eS 1 eI) (fun _ => True)
  | 0 => rd_zero
  | n + 1 => rd_map id (fun _ => rfl) (fun _ _ => trivial) (rd_slice (e := 2) Try.underlying24 (sz := 1) (by kernel_rfl) Nat.one_pos (fun _ => rfl) (rd2 n))
theorem rd25 : ∀ n : Nat, Rd Try.prog n 25 (eS 1 (eS 1 eI)) (fun _ => True)
  | 0 => rd_zero
  | n + 1 => rd_map id (fun _ => rfl) (fun _ _ => trivial) (rd_slice (e := 24) Try.underlying25 (sz := 1) (by kernel_rfl) Nat.one_pos (fun _ => rfl) (rd24 n))
theorem rd27 : ∀ n : Nat, Rd Try.prog n 27 eW (fun _ => True)
  | 0 => rd_zero
  | n + 1 => by
    have hf := rdf_cell (P := Try.prog) (n := n) (off := 0) (k := 1) (g := ⟨"Atoms", 24, 0, false, "", "", 0⟩) rfl (by kernel_rfl) (rd24 n) (rdf_cell1 (off := 1) (g := ⟨"Acts", 25, 1, false, "", "", 24⟩) rfl (rd25 n))
    exact rd_map id (fun _ => rfl) (fun _ _ => trivial) (rd_struct Try.underlying27 (by kernel_rfl) (by intro a d hd; simp at hd; rcases hd with rfl | rfl <;> exact ⟨rfl, rfl⟩) hf)
theorem arg23 : Arg Try.prog 23 eG (fun _ => True) := ⟨rd23, .inl ⟨fun _ => rfl, _, Try.underlying23⟩⟩
theorem arg27 : Arg Try.prog 27 eW (fun _ => True) := ⟨rd27, .inl ⟨fun _ => rfl, _, Try.underlying27⟩⟩

set_option maxRecDepth 100000 in
theorem validWorld_lifted (os : Os) (started : os.Started) (H : Type) (enc : TypeId × Value → H) :
    ReturnsInHanded {} Try.checked os 3 .any (Rows.fnExactValidWorldSpec.pre6 enc Try.prog Try.f3 Rows.fnExactValidWorldRow.domain false) (Rows.fnExactValidWorldSpec.post enc Try.prog Try.f3 false true false false) := by
  refine lifted_true (C := Try.checked) Try.own started (by kernel_rfl) Try.func3 Try.laidOut rfl (t := 4) rfl Try.underlying4 (by decide +kernel) ?_
    (ChangeSpec.witness6 (enc := enc) (C := Try.checked) false ⟨#[], #[.agg #[.int .i64 0, .int .i64 0], .agg #[.slice none 0 0, .slice none 0 0]], []⟩ 8 (by kernel_rfl) (by kernel_rfl) (by kernel_rfl) (by kernel_rfl)) ?_
  · intro ds hd
    match ds, hd with
    | [a, b], _ => exact ⟨rfl, rfl, rfl⟩
  · intro W b args ds ps ho h
    obtain ⟨g, w, hr, _⟩ := args_two arg23 arg27 ho h
    exact ⟨_, af3 g w, hr⟩

theorem validWorld_holds : Rows.FnExactValidWorldSaid :=
  OpenClaim.holds_of_wide 3 Try.f3 rfl rfl rfl rfl rfl rfl rfl ⟨rfl, rfl, rfl, rfl, rfl⟩ rfl rfl rfl rfl rfl (by kernel_rfl) Try.func3 (by kernel_rfl)
    (of_decide_eq_true (by kernel_rfl)) (by unfold Func.isWrapper; first | (rw [if_pos (by decide +kernel)]; kernel_rfl) | (rw [if_neg (by decide +kernel)]; exact ⟨rfl, rfl⟩))
    (fun os started H enc _ => validWorld_lifted os started H enc)
#print axioms validWorld_holds
end Go.Proofs.Ytmeajebpmefjcaa
