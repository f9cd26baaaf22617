/- THE LAW FnExactSameProof: for every input the law returns true and leaves its arguments as they were. No condition. -/
import Derived.Test.YtcklakmblpkbnaaM15
import Derived.Test.YtcklakmblpkbnaaAxF
import Derived.Test.YtcklakmblpkbnaaRows
set_option linter.unusedSimpArgs false
set_option linter.unusedVariables false
set_option linter.unnecessarySimpa false

namespace Go.Proofs.Ytcklakmblpkbnaa
open Go.Ax Go.ChangeShapes
set_option linter.unusedSimpArgs false

theorem Try.own : ownKnob Try.prog.godebug = none := by kernel_rfl
theorem Try.laidOut : laidOutB Try.prog = true := by kernel_rfl

theorem rd2 (n : Nat) : Rd Try.prog n 2 eI (fun _ => True) := rd_map id (fun _ => rfl) (fun _ _ => trivial) (rd_int Try.underlying2)
theorem rd23 : ∀ n : Nat, Rd Try.prog n 23 eG (fun _ => True)
  | 0 => rd_zero
  | n + 1 => by
    have h1 := rdf_cell1 (off := 1) (g := ⟨"Actions", 2, 1, false, "", "", 8⟩) rfl (rd2 n)
    have h0 := rdf_cell (P := Try.prog) (n := n) (off := 0) (k := 1) (g := ⟨"Tests", 2, 0, false, "", "", 0⟩) rfl (by kernel_rfl) (rd2 n) h1
    exact rd_map id (fun _ => rfl) (fun _ _ => trivial) (rd_struct Try.underlying23 (by kernel_rfl) (by intro a d hd; simp only [List.mem_cons, List.mem_append, List.not_mem_nil, or_false, or_assoc] at hd; rcases hd with rfl | rfl <;> exact ⟨rfl, rfl⟩) h0)
theorem rdb56 : ∀ n : Nat, Rd Try.prog n 56 eE (fun _ => True) ∧ Rd Try.prog n 54 (eS 3 eE) (fun _ => True)
  | 0 => ⟨rd_zero, rd_zero⟩
  | n + 1 => by
    have ih := rdb56 n
    refine ⟨?_, ?_⟩
    · have h2 := rdf_cell1 (off := 2) (g := ⟨"Kids", 54, 2, false, "", "", 16⟩) rfl ih.2
      have h1 := rdf_cell (P := Try.prog) (n := n) (off := 1) (k := 1) (g := ⟨"Num", 2, 1, false, "", "", 8⟩) rfl (by kernel_rfl) (rd2 n) h2
      have h0 := rdf_cell (P := Try.prog) (n := n) (off := 0) (k := 1) (g := ⟨"Kind", 2, 0, false, "", "", 0⟩) rfl (by kernel_rfl) (rd2 n) h1
      exact rd_map (fun x => Ex.mk x.1 x.2.1 x.2.2.1 x.2.2.2) (fun x => by rw [eE_mk]; rfl) (fun _ _ => trivial) (rd_struct Try.underlying56 (by kernel_rfl) (by intro a d hd; simp only [List.mem_cons, List.mem_append, List.not_mem_nil, or_false] at hd; rcases hd with rfl | rfl | rfl <;> exact ⟨rfl, rfl⟩) h0)
    · exact rd_map id (fun _ => rfl) (fun _ _ => trivial) (rd_slice (e := 56) (sz := 3) Try.underlying54 (by kernel_rfl) (by omega) eE_size ih.1)
theorem rd56 (n : Nat) : Rd Try.prog n 56 eE (fun _ => True) := (rdb56 n).1
theorem rd54 (n : Nat) : Rd Try.prog n 54 (eS 3 eE) (fun _ => True) := (rdb56 n).2
theorem rd4 (n : Nat) : Rd Try.prog n 4 eB (fun _ => True) := rd_map id (fun _ => rfl) (fun _ _ => trivial) (rd_bool Try.underlying4)
theorem rd37 : ∀ n : Nat, Rd Try.prog n 37 (eS 1 eI) (fun _ => True)
  | 0 => rd_zero
  | n + 1 => rd_map id (fun _ => rfl) (fun _ _ => trivial) (rd_slice (e := 2) (sz := 1) Try.underlying37 (by kernel_rfl) (by omega) (fun _ => rfl) (rd2 n))
theorem rd278 : ∀ n : Nat, Rd Try.prog n 278 eSt (fun _ => True)
  | 0 => rd_zero
  | n + 1 => by
    have h4 := rdf_cell1 (off := 4) (g := ⟨"Acts", 54, 4, false, "", "", 64⟩) rfl (rd54 n)
    have h3 := rdf_cell (P := Try.prog) (n := n) (off := 3) (k := 1) (g := ⟨"Tests", 54, 3, false, "", "", 40⟩) rfl (by kernel_rfl) (rd54 n) h4
    have h2 := rdf_cell (P := Try.prog) (n := n) (off := 2) (k := 1) (g := ⟨"Path", 37, 2, false, "", "", 16⟩) rfl (by kernel_rfl) (rd37 n) h3
    have h1 := rdf_cell (P := Try.prog) (n := n) (off := 1) (k := 1) (g := ⟨"Back", 4, 1, false, "", "", 8⟩) rfl (by kernel_rfl) (rd4 n) h2
    have h0 := rdf_cell (P := Try.prog) (n := n) (off := 0) (k := 1) (g := ⟨"Use", 2, 0, false, "", "", 0⟩) rfl (by kernel_rfl) (rd2 n) h1
    exact rd_map id (fun _ => rfl) (fun _ _ => trivial) (rd_struct Try.underlying278 (by kernel_rfl) (by intro a d hd; simp only [List.mem_cons, List.mem_append, List.not_mem_nil, or_false, or_assoc] at hd; rcases hd with rfl | rfl | rfl | rfl | rfl <;> exact ⟨rfl, rfl⟩) h0)
theorem rd255 : ∀ n : Nat, Rd Try.prog n 255 (eS 5 eSt) (fun _ => True)
  | 0 => rd_zero
  | n + 1 => rd_map id (fun _ => rfl) (fun _ _ => trivial) (rd_slice (e := 278) (sz := 5) Try.underlying255 (by kernel_rfl) (by omega) (fun _ => rfl) (rd278 n))
theorem rd257 : ∀ n : Nat, Rd Try.prog n 257 eCl (fun _ => True)
  | 0 => rd_zero
  | n + 1 => by
    have h4 := rdf_cell1 (off := 8) (g := ⟨"Steps", 255, 8, false, "", "", 96⟩) rfl (rd255 n)
    have h3 := rdf_cell (P := Try.prog) (n := n) (off := 7) (k := 1) (g := ⟨"Ref", 2, 7, false, "", "", 88⟩) rfl (by kernel_rfl) (rd2 n) h4
    have h2 := rdf_cell (P := Try.prog) (n := n) (off := 6) (k := 1) (g := ⟨"Rule", 2, 6, false, "", "", 80⟩) rfl (by kernel_rfl) (rd2 n) h3
    have hq1 : Rd Try.prog n 56 (fun a : Ex => .ag [.sc (.int .i64 a.k), .sc (.int .i64 a.n), .ls a.nn 3 (a.ks.map eE)]) (fun _ => True) := rd_map id (fun a => (eE_eta a).symm) (fun _ _ => trivial) (rd56 n)
    have h1 := rdf_ag (P := Try.prog) (n := n) (off := 3) (k := 3) (g := ⟨"Right", 56, 3, false, "", "", 40⟩) rfl (by kernel_rfl) hq1 h2
    have hq0 : Rd Try.prog n 56 (fun a : Ex => .ag [.sc (.int .i64 a.k), .sc (.int .i64 a.n), .ls a.nn 3 (a.ks.map eE)]) (fun _ => True) := rd_map id (fun a => (eE_eta a).symm) (fun _ _ => trivial) (rd56 n)
    have h0 := rdf_ag (P := Try.prog) (n := n) (off := 0) (k := 3) (g := ⟨"Left", 56, 0, false, "", "", 0⟩) rfl (by kernel_rfl) hq0 h1
    exact rd_map id (fun _ => rfl) (fun _ _ => trivial) (rd_struct Try.underlying257 (by kernel_rfl) (by intro a d hd; simp only [List.mem_cons, List.mem_append, List.not_mem_nil, or_false, or_assoc] at hd; rcases hd with rfl | rfl | rfl | rfl | rfl | rfl | rfl | rfl | rfl <;> exact ⟨rfl, rfl⟩) h0)
theorem rd128 : ∀ n : Nat, Rd Try.prog n 128 (eS 9 eCl) (fun _ => True)
  | 0 => rd_zero
  | n + 1 => rd_map id (fun _ => rfl) (fun _ _ => trivial) (rd_slice (e := 257) (sz := 9) Try.underlying128 (by kernel_rfl) (by omega) (fun _ => rfl) (rd257 n))
theorem rd130 : ∀ n : Nat, Rd Try.prog n 130 ePf (fun _ => True)
  | 0 => rd_zero
  | n + 1 => by
    have h1 := rdf_cell1 (off := 2) (g := ⟨"Claims", 128, 2, false, "", "", 16⟩) rfl (rd128 n)
    have h0 := rdf_ag (P := Try.prog) (n := n) (off := 0) (k := 2) (g := ⟨"Sig", 23, 0, false, "", "", 0⟩) rfl (by kernel_rfl) (rd23 n) h1
    exact rd_map id (fun _ => rfl) (fun _ _ => trivial) (rd_struct Try.underlying130 (by kernel_rfl) (by intro a d hd; simp only [List.mem_cons, List.mem_append, List.not_mem_nil, or_false, or_assoc] at hd; rcases hd with rfl | rfl | rfl <;> exact ⟨rfl, rfl⟩) h0)
theorem arg130 : Arg Try.prog 130 ePf (fun _ => True) := ⟨rd130, .inl ⟨fun _ => rfl, _, Try.underlying130⟩⟩

set_option maxRecDepth 100000 in
theorem law_lifted (os : Os) (started : os.Started) (H : Type) (enc : TypeId × Value → H) :
    ReturnsInHanded {} Try.checked os 14 .any (Rows.fnExactSameProofSpec.pre6 enc Try.prog Try.f14 Rows.fnExactSameProofRow.domain false) (Rows.fnExactSameProofSpec.post enc Try.prog Try.f14 false true false false) := by
  refine lifted_true (C := Try.checked) Try.own started (by kernel_rfl) Try.func14 Try.laidOut rfl (t := 4) rfl Try.underlying4 (by decide +kernel) ?_
    (ChangeSpec.witness6 (enc := enc) (C := Try.checked) false ⟨#[], #[.agg #[.int .i64 0, .int .i64 0, .slice none 0 0], .agg #[.int .i64 0, .int .i64 0, .slice none 0 0]], []⟩ 8 (by kernel_rfl) (by kernel_rfl) (by kernel_rfl) (by kernel_rfl)) ?_
  · intro ds hd
    match ds, hd with
    | [a0, a1], _ => exact ⟨rfl, rfl, rfl⟩
  · intro W b args ds ps ho h
    obtain ⟨x0, x1, hr, _⟩ := args_two arg130 arg130 ho h
    exact ⟨_, law x0 x1, hr⟩

theorem law_named : Try.checked.prog.funcNamed Rows.fnExactSameProofRow.func = some 14 := by kernel_rfl
theorem law_facts : joinedFacts Try.checked.prog 14 Try.f14 Rows.fnExactSameProofSpec Rows.fnExactSameProofRow = true := by kernel_rfl
theorem law_inst : Try.f14.isInstance Try.checked.prog Rows.fnExactSameProofRow.origin Rows.fnExactSameProofRow.targs := of_decide_eq_true (by kernel_rfl)
theorem law_wrap : Try.f14.isWrapper Try.checked.prog Rows.fnExactSameProofRow.wrapper Rows.fnExactSameProofRow.mainSum := by
  unfold Func.isWrapper; first | (rw [if_pos (by decide +kernel)]; kernel_rfl) | (rw [if_neg (by decide +kernel)]; exact ⟨rfl, rfl⟩)
theorem law_holds : Rows.FnExactSameProofSaid :=
  OpenClaim.holds_of_wide 14 Try.f14 rfl rfl rfl rfl rfl rfl rfl ⟨rfl, rfl, rfl, rfl, rfl⟩ rfl rfl rfl rfl rfl law_named Try.func14 law_facts law_inst law_wrap
    (fun os started H enc _ => law_lifted os started H enc)
#print axioms law_holds
end Go.Proofs.Ytcklakmblpkbnaa
