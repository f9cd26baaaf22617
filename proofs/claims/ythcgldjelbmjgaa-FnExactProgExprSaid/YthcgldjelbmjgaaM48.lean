/- THE LAW FnExactProgExpr: for every input the law returns true and leaves its arguments as they were. No condition. -/
import Derived.Test.YthcgldjelbmjgaaM47
import Derived.Test.YthcgldjelbmjgaaEnG
import Derived.Test.YthcgldjelbmjgaaRows
set_option linter.unusedSimpArgs false
set_option linter.unusedVariables false
set_option linter.unnecessarySimpa false

namespace Go.Proofs.Ythcgldjelbmjgaa
open Go.Ax Go.ChangeShapes
set_option linter.unusedSimpArgs false

theorem Try.own : ownKnob Try.prog.godebug = none := by kernel_rfl
theorem Try.laidOut : laidOutB Try.prog = true := by kernel_rfl

theorem rd2 (n : Nat) : Rd Try.prog n 2 eI (fun _ => True) := rd_map id (fun _ => rfl) (fun _ _ => trivial) (rd_int Try.underlying2)
theorem rd23 : ∀ n : Nat, Rd Try.prog n 23 eG (fun _ => True)
  | 0 => rd_zero
  | n + 1 => by
    have h1 := rdf_cell1 (off := 1) (g := ⟨"Actions", 2, 1, false, "", "", 8⟩) rfl (rd2 n)
    have h0 := rdf_cell (P := Try.prog) (n := n) (off := 0) (k := 1) (g := ⟨"Tests", 2, 0, false, "", "", 0⟩) rfl (by kernel_rfl) (rd2 n) h1
    exact rd_map id (fun _ => rfl) (fun _ _ => trivial) (rd_struct Try.underlying23 (by kernel_rfl) (by intro a d hd; simp only [List.mem_cons, List.mem_append, List.not_mem_nil, or_false, or_assoc] at hd; rcases hd with rfl | rfl <;> exact ⟨rfl, rfl⟩) h0)
theorem arg23 : Arg Try.prog 23 eG (fun _ => True) := ⟨rd23, .inl ⟨fun _ => rfl, _, Try.underlying23⟩⟩
theorem rdb30 : ∀ n : Nat, Rd Try.prog n 30 eE (fun _ => True) ∧ Rd Try.prog n 28 (eS 3 eE) (fun _ => True)
  | 0 => ⟨rd_zero, rd_zero⟩
  | n + 1 => by
    have ih := rdb30 n
    refine ⟨?_, ?_⟩
    · have h2 := rdf_cell1 (off := 2) (g := ⟨"Kids", 28, 2, false, "", "", 16⟩) rfl ih.2
      have h1 := rdf_cell (P := Try.prog) (n := n) (off := 1) (k := 1) (g := ⟨"Num", 2, 1, false, "", "", 8⟩) rfl (by kernel_rfl) (rd2 n) h2
      have h0 := rdf_cell (P := Try.prog) (n := n) (off := 0) (k := 1) (g := ⟨"Kind", 2, 0, false, "", "", 0⟩) rfl (by kernel_rfl) (rd2 n) h1
      exact rd_map (fun x => Ex.mk x.1 x.2.1 x.2.2.1 x.2.2.2) (fun x => by rw [eE_mk]; rfl) (fun _ _ => trivial) (rd_struct Try.underlying30 (by kernel_rfl) (by intro a d hd; simp only [List.mem_cons, List.mem_append, List.not_mem_nil, or_false] at hd; rcases hd with rfl | rfl | rfl <;> exact ⟨rfl, rfl⟩) h0)
    · exact rd_map id (fun _ => rfl) (fun _ _ => trivial) (rd_slice (e := 30) (sz := 3) Try.underlying28 (by kernel_rfl) (by omega) eE_size ih.1)
theorem rd30 (n : Nat) : Rd Try.prog n 30 eE (fun _ => True) := (rdb30 n).1
theorem rd28 (n : Nat) : Rd Try.prog n 28 (eS 3 eE) (fun _ => True) := (rdb30 n).2
theorem rdb94 : ∀ n : Nat, Rd Try.prog n 94 eP (fun _ => True) ∧ Rd Try.prog n 92 (eS 6 eP) (fun _ => True)
  | 0 => ⟨rd_zero, rd_zero⟩
  | n + 1 => by
    have ih := rdb94 n
    refine ⟨?_, ?_⟩
    · have h3 := rdf_cell1 (off := 5) (g := ⟨"Kids", 92, 5, false, "", "", 56⟩) rfl ih.2
      have hq : Rd Try.prog n 30 (fun a : Ex => .ag [.sc (.int .i64 a.k), .sc (.int .i64 a.n), .ls a.nn 3 (a.ks.map eE)]) (fun _ => True) := rd_map id (fun a => (eE_eta a).symm) (fun _ _ => trivial) (rd30 n)
      have h2 := rdf_ag (P := Try.prog) (n := n) (off := 2) (k := 3) (g := ⟨"Cond", 30, 2, false, "", "", 16⟩) rfl (by kernel_rfl) hq h3
      have h1 := rdf_cell (P := Try.prog) (n := n) (off := 1) (k := 1) (g := ⟨"Num", 2, 1, false, "", "", 8⟩) rfl (by kernel_rfl) (rd2 n) h2
      have h0 := rdf_cell (P := Try.prog) (n := n) (off := 0) (k := 1) (g := ⟨"Kind", 2, 0, false, "", "", 0⟩) rfl (by kernel_rfl) (rd2 n) h1
      exact rd_map (fun x => Pg.mk x.1 x.2.1 x.2.2.1 x.2.2.2.1 x.2.2.2.2) (fun x => by rw [eP_mk]; rfl) (fun _ _ => trivial) (rd_struct Try.underlying94 (by kernel_rfl) (by intro a d hd; simp only [List.mem_cons, List.mem_append, List.not_mem_nil, or_false] at hd; rcases hd with rfl | rfl | (rfl | rfl | rfl) | rfl <;> exact ⟨rfl, rfl⟩) h0)
    · exact rd_map id (fun _ => rfl) (fun _ _ => trivial) (rd_slice (e := 94) (sz := 6) Try.underlying92 (by kernel_rfl) (by omega) eP_size ih.1)
theorem rd94 (n : Nat) : Rd Try.prog n 94 eP (fun _ => True) := (rdb94 n).1
theorem rd92 (n : Nat) : Rd Try.prog n 92 (eS 6 eP) (fun _ => True) := (rdb94 n).2
theorem arg94 : Arg Try.prog 94 eP (fun _ => True) := ⟨rd94, .inl ⟨eP_isAg, _, Try.underlying94⟩⟩

set_option maxRecDepth 100000 in
theorem law_lifted (os : Os) (started : os.Started) (H : Type) (enc : TypeId × Value → H) :
    ReturnsInHanded {} Try.checked os 10 .any (Rows.fnExactProgExprSpec.pre6 enc Try.prog Try.f10 Rows.fnExactProgExprRow.domain false) (Rows.fnExactProgExprSpec.post enc Try.prog Try.f10 false true false false) := by
  refine lifted_true (C := Try.checked) Try.own started (by kernel_rfl) Try.func10 Try.laidOut rfl (t := 4) rfl Try.underlying4 (by decide +kernel) ?_
    (ChangeSpec.witness6 (enc := enc) (C := Try.checked) false ⟨#[], #[.agg #[.int .i64 0, .int .i64 0], .agg #[.int .i64 0, .int .i64 0, .int .i64 0, .int .i64 0, .slice none 0 0, .slice none 0 0]], []⟩ 8 (by kernel_rfl) (by kernel_rfl) (by kernel_rfl) (by kernel_rfl)) ?_
  · intro ds hd
    match ds, hd with
    | [a0, a1], _ => exact ⟨rfl, rfl, rfl⟩
  · intro W b args ds ps ho h
    obtain ⟨x0, x1, hr, _⟩ := args_two arg23 arg94 ho h
    exact ⟨_, law x0 x1, hr⟩

theorem law_named : Try.checked.prog.funcNamed Rows.fnExactProgExprRow.func = some 10 := by kernel_rfl
theorem law_facts : joinedFacts Try.checked.prog 10 Try.f10 Rows.fnExactProgExprSpec Rows.fnExactProgExprRow = true := by kernel_rfl
theorem law_inst : Try.f10.isInstance Try.checked.prog Rows.fnExactProgExprRow.origin Rows.fnExactProgExprRow.targs := of_decide_eq_true (by kernel_rfl)
theorem law_wrap : Try.f10.isWrapper Try.checked.prog Rows.fnExactProgExprRow.wrapper Rows.fnExactProgExprRow.mainSum := by
  unfold Func.isWrapper; first | (rw [if_pos (by decide +kernel)]; kernel_rfl) | (rw [if_neg (by decide +kernel)]; exact ⟨rfl, rfl⟩)
theorem law_holds : Rows.FnExactProgExprSaid :=
  OpenClaim.holds_of_wide 10 Try.f10 rfl rfl rfl rfl rfl rfl rfl ⟨rfl, rfl, rfl, rfl, rfl⟩ rfl rfl rfl rfl rfl law_named Try.func10 law_facts law_inst law_wrap
    (fun os started H enc _ => law_lifted os started H enc)
#print axioms law_holds
end Go.Proofs.Ythcgldjelbmjgaa
