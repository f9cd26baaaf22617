/- THE LAW FnExactSameModel: for every input the law returns true and leaves its arguments as they were. No condition. -/
import Derived.Test.YtmeajebpmefjcaaU5
import Derived.Test.YtmeajebpmefjcaaAxD
import Derived.Test.YtmeajebpmefjcaaRows

namespace Go.Proofs.Ytmeajebpmefjcaa
open Go.Ax Go.ChangeShapes
set_option linter.unusedSimpArgs false

theorem Try.own : ownKnob Try.prog.godebug = none := by kernel_rfl
theorem Try.laidOut : laidOutB Try.prog = true := by kernel_rfl

theorem rd2 (n : Nat) : Rd Try.prog n 2 eI (fun _ => True) := rd_map id (fun _ => rfl) (fun _ _ => trivial) (rd_int Try.underlying2)
theorem rd23 : ∀ n : Nat, Rd Try.prog n 23 eG (fun _ => True)
  | 0 => rd_zero
  | n + 1 => by
    have h1 := rdf_cell1 (off := 1) (g := ⟨"Actions", 2, 1, false, "", "", 8⟩) rfl (rd2 n)
    have h0 := rdf_cell (P := Try.prog) (n := n) (off := 0) (k := 1) (g := ⟨"Tests", 2, 0, false, "", "", 0⟩) rfl (by kernel_rfl) (rd2 n) h1
    exact rd_map id (fun _ => rfl) (fun _ _ => trivial) (rd_struct Try.underlying23 (by kernel_rfl) (by intro a d hd; simp only [List.mem_cons, List.mem_append, List.not_mem_nil, or_false] at hd; rcases hd with rfl | rfl <;> exact ⟨rfl, rfl⟩) h0)
theorem rd4 (n : Nat) : Rd Try.prog n 4 eB (fun _ => True) := rd_map id (fun _ => rfl) (fun _ _ => trivial) (rd_bool Try.underlying4)
theorem rd104 : ∀ n : Nat, Rd Try.prog n 104 (eS 1 eB) (fun _ => True)
  | 0 => rd_zero
  | n + 1 => rd_map id (fun _ => rfl) (fun _ _ => trivial) (rd_slice (e := 4) (sz := 1) Try.underlying104 (by kernel_rfl) (by omega) (fun _ => rfl) (rd4 n))
theorem rd52 : ∀ n : Nat, Rd Try.prog n 52 (eS 1 (eS 1 eB)) (fun _ => True)
  | 0 => rd_zero
  | n + 1 => rd_map id (fun _ => rfl) (fun _ _ => trivial) (rd_slice (e := 104) (sz := 1) Try.underlying52 (by kernel_rfl) (by omega) (fun _ => rfl) (rd104 n))
theorem rd53 : ∀ n : Nat, Rd Try.prog n 53 (eS 1 (eS 1 (eS 1 eB))) (fun _ => True)
  | 0 => rd_zero
  | n + 1 => rd_map id (fun _ => rfl) (fun _ _ => trivial) (rd_slice (e := 52) (sz := 1) Try.underlying53 (by kernel_rfl) (by omega) (fun _ => rfl) (rd52 n))
theorem rd55 : ∀ n : Nat, Rd Try.prog n 55 eM (fun _ => True)
  | 0 => rd_zero
  | n + 1 => by
    have h3 := rdf_cell1 (off := 4) (g := ⟨"Acts", 53, 4, false, "", "", 48⟩) rfl (rd53 n)
    have h2 := rdf_cell (P := Try.prog) (n := n) (off := 3) (k := 1) (g := ⟨"Tests", 52, 3, false, "", "", 24⟩) rfl (by kernel_rfl) (rd52 n) h3
    have h1 := rdf_cell (P := Try.prog) (n := n) (off := 2) (k := 1) (g := ⟨"Points", 2, 2, false, "", "", 16⟩) rfl (by kernel_rfl) (rd2 n) h2
    have h0 := rdf_ag (P := Try.prog) (n := n) (off := 0) (k := 2) (g := ⟨"Sig", 23, 0, false, "", "", 0⟩) rfl (by kernel_rfl) (rd23 n) h1
    exact rd_map id (fun _ => rfl) (fun _ _ => trivial) (rd_struct Try.underlying55 (by kernel_rfl) (by intro a d hd; simp only [List.mem_cons, List.mem_append, List.not_mem_nil, or_false] at hd; rcases hd with rfl | rfl | rfl | rfl | rfl <;> exact ⟨rfl, rfl⟩) h0)
theorem arg55 : Arg Try.prog 55 eM (fun _ => True) := ⟨rd55, .inl ⟨fun _ => rfl, _, Try.underlying55⟩⟩

set_option maxRecDepth 100000 in
theorem law_lifted (os : Os) (started : os.Started) (H : Type) (enc : TypeId × Value → H) :
    ReturnsInHanded {} Try.checked os 6 .any (Rows.fnExactSameModelSpec.pre6 enc Try.prog Try.f6 Rows.fnExactSameModelRow.domain false) (Rows.fnExactSameModelSpec.post enc Try.prog Try.f6 false true false false) := by
  refine lifted_true (C := Try.checked) Try.own started (by kernel_rfl) Try.func6 Try.laidOut rfl (t := 4) rfl Try.underlying4 (by decide +kernel) ?_
    (ChangeSpec.witness6 (enc := enc) (C := Try.checked) false ⟨#[], #[.agg #[.int .i64 0, .int .i64 0, .int .i64 0, .slice none 0 0, .slice none 0 0], .agg #[.int .i64 0, .int .i64 0, .int .i64 0, .slice none 0 0, .slice none 0 0]], []⟩ 8 (by kernel_rfl) (by kernel_rfl) (by kernel_rfl) (by kernel_rfl)) ?_
  · intro ds hd
    match ds, hd with
    | [a0, a1], _ => exact ⟨rfl, rfl, rfl⟩
  · intro W b args ds ps ho h
    obtain ⟨x0, x1, hr, _⟩ := args_two arg55 arg55 ho h
    exact ⟨_, af6 x0 x1, hr⟩

theorem law_holds : Rows.FnExactSameModelSaid :=
  OpenClaim.holds_of_wide 6 Try.f6 rfl rfl rfl rfl rfl rfl rfl ⟨rfl, rfl, rfl, rfl, rfl⟩ rfl rfl rfl rfl rfl (by kernel_rfl) Try.func6 (by kernel_rfl)
    (of_decide_eq_true (by kernel_rfl)) (by unfold Func.isWrapper; first | (rw [if_pos (by decide +kernel)]; kernel_rfl) | (rw [if_neg (by decide +kernel)]; exact ⟨rfl, rfl⟩))
    (fun os started H enc _ => law_lifted os started H enc)
#print axioms law_holds
end Go.Proofs.Ytmeajebpmefjcaa
