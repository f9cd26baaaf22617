/- THE LAW FnExactValidProof: for every input the law returns true and leaves its arguments as they were. No condition. -/
import Derived.Test.YtfnbkfgfkdkffaaM43
import Derived.Test.YtfnbkfgfkdkffaaEnG
import Derived.Test.YtfnbkfgfkdkffaaRows
set_option linter.unusedSimpArgs false
set_option linter.unusedVariables false
set_option linter.unnecessarySimpa false

namespace Go.Proofs.Ytfnbkfgfkdkffaa
open Go.Ax Go.ChangeShapes
set_option linter.unusedSimpArgs false

theorem Try.own : ownKnob Try.prog.godebug = none := by kernel_rfl
theorem Try.laidOut : laidOutB Try.prog = true := by kernel_rfl

theorem rd2 (n : Nat) : Rd Try.prog n 2 eI (fun _ => True) := rd_map id (fun _ => rfl) (fun _ _ => trivial) (rd_int Try.underlying2)
theorem rd23 : ∀ n : Nat, Rd Try.prog n 23 eG (fun _ => True)
  | 0 => rd_zero
  | n + 1 => by
    have h1 := rdf_cell1 (off := 1) (g := ⟨"Actions", 2, 1, false, "", "", 8⟩) rfl (rd2 n)
    have h0 := rdf_cell (P := Try.prog) (n := n) (off := 0) (k := 1) (g := ⟨"Tests", 2, 0, false, "", "", 0⟩) rfl (by kernel_rfl) (rd2 n) h1
    exact rd_map id (fun _ => rfl) (fun _ _ => trivial) (rd_struct Try.underlying23 (by kernel_rfl) (by intro a d hd; simp only [List.mem_cons, List.mem_append, List.not_mem_nil, or_false, or_assoc] at hd; rcases hd with rfl | rfl <;> exact ⟨rfl, rfl⟩) h0)
theorem rdb89 : ∀ n : Nat, Rd Try.prog n 89 eE (fun _ => True) ∧ Rd Try.prog n 87 (eS 3 eE) (fun _ => True)
  | 0 => ⟨rd_zero, rd_zero⟩
  | n + 1 => by
    have ih := rdb89 n
    refine ⟨?_, ?_⟩
    · have h2 := rdf_cell1 (off := 2) (g := ⟨"Kids", 87, 2, false, "", "", 16⟩) rfl ih.2
      have h1 := rdf_cell (P := Try.prog) (n := n) (off := 1) (k := 1) (g := ⟨"Num", 2, 1, false, "", "", 8⟩) rfl (by kernel_rfl) (rd2 n) h2
      have h0 := rdf_cell (P := Try.prog) (n := n) (off := 0) (k := 1) (g := ⟨"Kind", 2, 0, false, "", "", 0⟩) rfl (by kernel_rfl) (rd2 n) h1
      exact rd_map (fun x => Ex.mk x.1 x.2.1 x.2.2.1 x.2.2.2) (fun x => by rw [eE_mk]; rfl) (fun _ _ => trivial) (rd_struct Try.underlying89 (by kernel_rfl) (by intro a d hd; simp only [List.mem_cons, List.mem_append, List.not_mem_nil, or_false] at hd; rcases hd with rfl | rfl | rfl <;> exact ⟨rfl, rfl⟩) h0)
    · exact rd_map id (fun _ => rfl) (fun _ _ => trivial) (rd_slice (e := 89) (sz := 3) Try.underlying87 (by kernel_rfl) (by omega) eE_size ih.1)
theorem rd89 (n : Nat) : Rd Try.prog n 89 eE (fun _ => True) := (rdb89 n).1
theorem rd87 (n : Nat) : Rd Try.prog n 87 (eS 3 eE) (fun _ => True) := (rdb89 n).2
theorem rd4 (n : Nat) : Rd Try.prog n 4 eB (fun _ => True) := rd_map id (fun _ => rfl) (fun _ _ => trivial) (rd_bool Try.underlying4)
theorem rd40 : ∀ n : Nat, Rd Try.prog n 40 (eS 1 eI) (fun _ => True)
  | 0 => rd_zero
  | n + 1 => rd_map id (fun _ => rfl) (fun _ _ => trivial) (rd_slice (e := 2) (sz := 1) Try.underlying40 (by kernel_rfl) (by omega) (fun _ => rfl) (rd2 n))
theorem rd140 : ∀ n : Nat, Rd Try.prog n 140 eSt (fun _ => True)
  | 0 => rd_zero
  | n + 1 => by
    have h4 := rdf_cell1 (off := 4) (g := ⟨"Acts", 87, 4, false, "", "", 64⟩) rfl (rd87 n)
    have h3 := rdf_cell (P := Try.prog) (n := n) (off := 3) (k := 1) (g := ⟨"Tests", 87, 3, false, "", "", 40⟩) rfl (by kernel_rfl) (rd87 n) h4
    have h2 := rdf_cell (P := Try.prog) (n := n) (off := 2) (k := 1) (g := ⟨"Path", 40, 2, false, "", "", 16⟩) rfl (by kernel_rfl) (rd40 n) h3
    have h1 := rdf_cell (P := Try.prog) (n := n) (off := 1) (k := 1) (g := ⟨"Back", 4, 1, false, "", "", 8⟩) rfl (by kernel_rfl) (rd4 n) h2
    have h0 := rdf_cell (P := Try.prog) (n := n) (off := 0) (k := 1) (g := ⟨"Use", 2, 0, false, "", "", 0⟩) rfl (by kernel_rfl) (rd2 n) h1
    exact rd_map id (fun _ => rfl) (fun _ _ => trivial) (rd_struct Try.underlying140 (by kernel_rfl) (by intro a d hd; simp only [List.mem_cons, List.mem_append, List.not_mem_nil, or_false, or_assoc] at hd; rcases hd with rfl | rfl | rfl | rfl | rfl <;> exact ⟨rfl, rfl⟩) h0)
theorem rd90 : ∀ n : Nat, Rd Try.prog n 90 (eS 5 eSt) (fun _ => True)
  | 0 => rd_zero
  | n + 1 => rd_map id (fun _ => rfl) (fun _ _ => trivial) (rd_slice (e := 140) (sz := 5) Try.underlying90 (by kernel_rfl) (by omega) (fun _ => rfl) (rd140 n))
theorem rd92 : ∀ n : Nat, Rd Try.prog n 92 eCl (fun _ => True)
  | 0 => rd_zero
  | n + 1 => by
    have h4 := rdf_cell1 (off := 8) (g := ⟨"Steps", 90, 8, false, "", "", 96⟩) rfl (rd90 n)
    have h3 := rdf_cell (P := Try.prog) (n := n) (off := 7) (k := 1) (g := ⟨"Ref", 2, 7, false, "", "", 88⟩) rfl (by kernel_rfl) (rd2 n) h4
    have h2 := rdf_cell (P := Try.prog) (n := n) (off := 6) (k := 1) (g := ⟨"Rule", 2, 6, false, "", "", 80⟩) rfl (by kernel_rfl) (rd2 n) h3
    have hq1 : Rd Try.prog n 89 (fun a : Ex => .ag [.sc (.int .i64 a.k), .sc (.int .i64 a.n), .ls a.nn 3 (a.ks.map eE)]) (fun _ => True) := rd_map id (fun a => (eE_eta a).symm) (fun _ _ => trivial) (rd89 n)
    have h1 := rdf_ag (P := Try.prog) (n := n) (off := 3) (k := 3) (g := ⟨"Right", 89, 3, false, "", "", 40⟩) rfl (by kernel_rfl) hq1 h2
    have hq0 : Rd Try.prog n 89 (fun a : Ex => .ag [.sc (.int .i64 a.k), .sc (.int .i64 a.n), .ls a.nn 3 (a.ks.map eE)]) (fun _ => True) := rd_map id (fun a => (eE_eta a).symm) (fun _ _ => trivial) (rd89 n)
    have h0 := rdf_ag (P := Try.prog) (n := n) (off := 0) (k := 3) (g := ⟨"Left", 89, 0, false, "", "", 0⟩) rfl (by kernel_rfl) hq0 h1
    exact rd_map id (fun _ => rfl) (fun _ _ => trivial) (rd_struct Try.underlying92 (by kernel_rfl) (by intro a d hd; simp only [List.mem_cons, List.mem_append, List.not_mem_nil, or_false, or_assoc] at hd; rcases hd with rfl | rfl | rfl | rfl | rfl | rfl | rfl | rfl | rfl <;> exact ⟨rfl, rfl⟩) h0)
theorem rd24 : ∀ n : Nat, Rd Try.prog n 24 (eS 9 eCl) (fun _ => True)
  | 0 => rd_zero
  | n + 1 => rd_map id (fun _ => rfl) (fun _ _ => trivial) (rd_slice (e := 92) (sz := 9) Try.underlying24 (by kernel_rfl) (by omega) (fun _ => rfl) (rd92 n))
theorem rd26 : ∀ n : Nat, Rd Try.prog n 26 ePf (fun _ => True)
  | 0 => rd_zero
  | n + 1 => by
    have h1 := rdf_cell1 (off := 2) (g := ⟨"Claims", 24, 2, false, "", "", 16⟩) rfl (rd24 n)
    have h0 := rdf_ag (P := Try.prog) (n := n) (off := 0) (k := 2) (g := ⟨"Sig", 23, 0, false, "", "", 0⟩) rfl (by kernel_rfl) (rd23 n) h1
    exact rd_map id (fun _ => rfl) (fun _ _ => trivial) (rd_struct Try.underlying26 (by kernel_rfl) (by intro a d hd; simp only [List.mem_cons, List.mem_append, List.not_mem_nil, or_false, or_assoc] at hd; rcases hd with rfl | rfl | rfl <;> exact ⟨rfl, rfl⟩) h0)
theorem arg26 : Arg Try.prog 26 ePf (fun _ => True) := ⟨rd26, .inl ⟨fun _ => rfl, _, Try.underlying26⟩⟩

set_option maxRecDepth 100000 in
theorem law_lifted (os : Os) (started : os.Started) (H : Type) (enc : TypeId × Value → H) :
    ReturnsInHanded {} Try.checked os 3 .any (Rows.fnExactValidProofSpec.pre6 enc Try.prog Try.f3 Rows.fnExactValidProofRow.domain false) (Rows.fnExactValidProofSpec.post enc Try.prog Try.f3 false true false false) := by
  refine lifted_true (C := Try.checked) Try.own started (by kernel_rfl) Try.func3 Try.laidOut rfl (t := 4) rfl Try.underlying4 (by decide +kernel) ?_
    (ChangeSpec.witness6 (enc := enc) (C := Try.checked) false ⟨#[], #[.agg #[.int .i64 0, .int .i64 0, .slice none 0 0]], []⟩ 8 (by kernel_rfl) (by kernel_rfl) (by kernel_rfl) (by kernel_rfl)) ?_
  · intro ds hd
    match ds, hd with
    | [a0], _ => exact ⟨rfl, rfl, rfl⟩
  · intro W b args ds ps ho h
    obtain ⟨x0, hr, _⟩ := args_one arg26 ho h
    exact ⟨_, law x0, hr⟩

theorem law_named : Try.checked.prog.funcNamed Rows.fnExactValidProofRow.func = some 3 := by kernel_rfl
theorem law_facts : joinedFacts Try.checked.prog 3 Try.f3 Rows.fnExactValidProofSpec Rows.fnExactValidProofRow = true := by kernel_rfl
theorem law_inst : Try.f3.isInstance Try.checked.prog Rows.fnExactValidProofRow.origin Rows.fnExactValidProofRow.targs := of_decide_eq_true (by kernel_rfl)
theorem law_wrap : Try.f3.isWrapper Try.checked.prog Rows.fnExactValidProofRow.wrapper Rows.fnExactValidProofRow.mainSum := by
  unfold Func.isWrapper; first | (rw [if_pos (by decide +kernel)]; kernel_rfl) | (rw [if_neg (by decide +kernel)]; exact ⟨rfl, rfl⟩)
theorem law_holds : Rows.FnExactValidProofSaid :=
  OpenClaim.holds_of_wide 3 Try.f3 rfl rfl rfl rfl rfl rfl rfl ⟨rfl, rfl, rfl, rfl, rfl⟩ rfl rfl rfl rfl rfl law_named Try.func3 law_facts law_inst law_wrap
    (fun os started H enc _ => law_lifted os started H enc)
#print axioms law_holds
end Go.Proofs.Ytfnbkfgfkdkffaa
