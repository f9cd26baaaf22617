/- THE LAW FnExactSitesOf: for every input the law returns true and leaves its arguments as they were. No condition. -/
import Derived.Test.YtmcbkgcnlopjiaaM73
import Derived.Test.YtmcbkgcnlopjiaaEnH
import Derived.Test.YtmcbkgcnlopjiaaRows
set_option linter.unusedSimpArgs false
set_option linter.unusedVariables false
set_option linter.unnecessarySimpa false

namespace Go.Proofs.Ytmcbkgcnlopjiaa
open Go.Ax Go.ChangeShapes
set_option linter.unusedSimpArgs false

theorem Try.own : ownKnob Try.prog.godebug = none := by kernel_rfl
theorem Try.laidOut : laidOutB Try.prog = true := by kernel_rfl

theorem rd2 (n : Nat) : Rd Try.prog n 2 eI (fun _ => True) := rd_map id (fun _ => rfl) (fun _ _ => trivial) (rd_int Try.underlying2)
theorem rd23 : ∀ n : Nat, Rd Try.prog n 23 eG (fun _ => True)
 | 0 => rd_zero
 | n + 1 => by
  have h1 := rdf_cell1 (off := 1) (g := ⟨"Actions", 2, 1, false, "", "", 8⟩) rfl (rd2 n)
  have h0 := rdf_cell (P := Try.prog) (n := n) (off := 0) (k := 1) (g := ⟨"Tests", 2, 0, false, "", "", 0⟩) rfl (by kernel_rfl) (rd2 n) h1
  exact rd_map id (fun _ => rfl) (fun _ _ => trivial) (rd_struct Try.underlying23 (by kernel_rfl) (by intro a d hd; simp only [List.mem_cons, List.mem_append, List.not_mem_nil, or_false, or_assoc] at hd; rcases hd with rfl | rfl <;> exact ⟨rfl, rfl⟩) h0)
theorem arg23 : Arg Try.prog 23 eG (fun _ => True) := ⟨rd23, .inl ⟨fun _ => rfl, _, Try.underlying23⟩⟩
theorem rdb26 : ∀ n : Nat, Rd Try.prog n 26 eE (fun _ => True) ∧ Rd Try.prog n 24 (eS 3 eE) (fun _ => True)
 | 0 => ⟨rd_zero, rd_zero⟩
 | n + 1 => by
  have ih := rdb26 n
  refine ⟨?_, ?_⟩
  ·have h2 := rdf_cell1 (off := 2) (g := ⟨"Kids", 24, 2, false, "", "", 16⟩) rfl ih.2
   have h1 := rdf_cell (P := Try.prog) (n := n) (off := 1) (k := 1) (g := ⟨"Num", 2, 1, false, "", "", 8⟩) rfl (by kernel_rfl) (rd2 n) h2
   have h0 := rdf_cell (P := Try.prog) (n := n) (off := 0) (k := 1) (g := ⟨"Kind", 2, 0, false, "", "", 0⟩) rfl (by kernel_rfl) (rd2 n) h1
   exact rd_map (fun x => Ex.mk x.1 x.2.1 x.2.2.1 x.2.2.2) (fun x => by rw [eE_mk]; rfl) (fun _ _ => trivial) (rd_struct Try.underlying26 (by kernel_rfl) (by intro a d hd; simp only [List.mem_cons, List.mem_append, List.not_mem_nil, or_false] at hd; rcases hd with rfl | rfl | rfl <;> exact ⟨rfl, rfl⟩) h0)
  ·exact rd_map id (fun _ => rfl) (fun _ _ => trivial) (rd_slice (e := 26) (sz := 3) Try.underlying24 (by kernel_rfl) (by omega) eE_size ih.1)
theorem rd26 (n : Nat) : Rd Try.prog n 26 eE (fun _ => True) := (rdb26 n).1
theorem rd24 (n : Nat) : Rd Try.prog n 24 (eS 3 eE) (fun _ => True) := (rdb26 n).2
theorem rdb29 : ∀ n : Nat, Rd Try.prog n 29 eP (fun _ => True) ∧ Rd Try.prog n 27 (eS 6 eP) (fun _ => True)
 | 0 => ⟨rd_zero, rd_zero⟩
 | n + 1 => by
  have ih := rdb29 n
  refine ⟨?_, ?_⟩
  ·have h3 := rdf_cell1 (off := 5) (g := ⟨"Kids", 27, 5, false, "", "", 56⟩) rfl ih.2
   have hq : Rd Try.prog n 26 (fun a : Ex => .ag [.sc (.int .i64 a.k), .sc (.int .i64 a.n), .ls a.nn 3 (a.ks.map eE)]) (fun _ => True) := rd_map id (fun a => (eE_eta a).symm) (fun _ _ => trivial) (rd26 n)
   have h2 := rdf_ag (P := Try.prog) (n := n) (off := 2) (k := 3) (g := ⟨"Cond", 26, 2, false, "", "", 16⟩) rfl (by kernel_rfl) hq h3
   have h1 := rdf_cell (P := Try.prog) (n := n) (off := 1) (k := 1) (g := ⟨"Num", 2, 1, false, "", "", 8⟩) rfl (by kernel_rfl) (rd2 n) h2
   have h0 := rdf_cell (P := Try.prog) (n := n) (off := 0) (k := 1) (g := ⟨"Kind", 2, 0, false, "", "", 0⟩) rfl (by kernel_rfl) (rd2 n) h1
   exact rd_map (fun x => Pg.mk x.1 x.2.1 x.2.2.1 x.2.2.2.1 x.2.2.2.2) (fun x => by rw [eP_mk]; rfl) (fun _ _ => trivial) (rd_struct Try.underlying29 (by kernel_rfl) (by intro a d hd; simp only [List.mem_cons, List.mem_append, List.not_mem_nil, or_false] at hd; rcases hd with rfl | rfl | (rfl | rfl | rfl) | rfl <;> exact ⟨rfl, rfl⟩) h0)
  ·exact rd_map id (fun _ => rfl) (fun _ _ => trivial) (rd_slice (e := 29) (sz := 6) Try.underlying27 (by kernel_rfl) (by omega) eP_size ih.1)
theorem rd29 (n : Nat) : Rd Try.prog n 29 eP (fun _ => True) := (rdb29 n).1
theorem rd27 (n : Nat) : Rd Try.prog n 27 (eS 6 eP) (fun _ => True) := (rdb29 n).2
theorem arg29 : Arg Try.prog 29 eP (fun _ => True) := ⟨rd29, .inl ⟨eP_isAg, _, Try.underlying29⟩⟩
theorem arg2 : Arg Try.prog 2 eI (fun _ => True) := ⟨rd2, .inr ⟨fun _ => rfl, by rw [Try.underlying2]⟩⟩

set_option maxRecDepth 100000 in
theorem law_lifted (os : Os) (started : os.Started) (H : Type) (enc : TypeId × Value → H) :
  ReturnsInHanded {} Try.checked os 3 .any (Rows.fnExactSitesOfSpec.pre6 enc Try.prog Try.f3 Rows.fnExactSitesOfRow.domain false) (Rows.fnExactSitesOfSpec.post enc Try.prog Try.f3 false true false false) := by
 refine lifted_true (C := Try.checked) Try.own started (by kernel_rfl) Try.func3 Try.laidOut rfl (t := 4) rfl Try.underlying4 (by decide +kernel) ?_
  (ChangeSpec.witness6 (enc := enc) (C := Try.checked) false ⟨#[], #[.agg #[.int .i64 0, .int .i64 0], .agg #[.int .i64 0, .int .i64 0, .int .i64 0, .int .i64 0, .slice none 0 0, .slice none 0 0], .int .i64 0], []⟩ 8 (by kernel_rfl) (by kernel_rfl) (by kernel_rfl) (by kernel_rfl)) ?_
 ·intro ds hd
  match ds, hd with
  | [a0, a1, a2], _ => exact ⟨rfl, rfl, rfl⟩
 ·intro W b args ds ps ho h
  obtain ⟨x0, x1, x2, hr, _⟩ := args_three arg23 arg29 arg2 ho h
  exact ⟨_, law x0 x1 x2, hr⟩

theorem law_named : Try.checked.prog.funcNamed Rows.fnExactSitesOfRow.func = some 3 := by kernel_rfl
theorem law_facts : joinedFacts Try.checked.prog 3 Try.f3 Rows.fnExactSitesOfSpec Rows.fnExactSitesOfRow = true := by kernel_rfl
theorem law_inst : Try.f3.isInstance Try.checked.prog Rows.fnExactSitesOfRow.origin Rows.fnExactSitesOfRow.targs := of_decide_eq_true (by kernel_rfl)
theorem law_wrap : Try.f3.isWrapper Try.checked.prog Rows.fnExactSitesOfRow.wrapper Rows.fnExactSitesOfRow.mainSum := by
 unfold Func.isWrapper; first | (rw [if_pos (by decide +kernel)]; kernel_rfl) | (rw [if_neg (by decide +kernel)]; exact ⟨rfl, rfl⟩)
theorem law_holds : Rows.FnExactSitesOfSaid :=
 OpenClaim.holds_of_wide 3 Try.f3 rfl rfl rfl rfl rfl rfl rfl ⟨rfl, rfl, rfl, rfl, rfl⟩ rfl rfl rfl rfl rfl law_named Try.func3 law_facts law_inst law_wrap
  (fun os started H enc _ => law_lifted os started H enc)
#print axioms law_holds
end Go.Proofs.Ytmcbkgcnlopjiaa
