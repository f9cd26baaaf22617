/- THE LAW FnExactFlowAutomaton: for every input the law returns true and leaves its arguments as they were. No condition. -/
import Derived.Test.YtalgnbkjhgncaaaM83
import Derived.Test.YtalgnbkjhgncaaaEnL
import Derived.Test.YtalgnbkjhgncaaaRows
set_option linter.unusedSimpArgs false
set_option linter.unusedVariables false
set_option linter.unnecessarySimpa false
set_option linter.unusedSectionVars false

namespace Go.Proofs.Ytalgnbkjhgncaaa
open Go.Ax Go.ChangeShapes
set_option linter.unusedSimpArgs false

theorem Try.own : ownKnob Try.prog.godebug = none := by kernel_rfl
theorem Try.laidOut : laidOutB Try.prog = true := by kernel_rfl

theorem Tx (n : Nat) : Rd Try.prog n 2 eI (fun _ => True) := qL id (fun _ => rfl) (fun _ _ => trivial) (Zl Try.underlying2)
theorem agw : ∀ n : Nat, Rd Try.prog n 23 eG (fun _ => True)
 | 0 => rF
 | n + 1 => by
  have h1 := rr (off := 1) (g := ⟨"Actions", 2, 1, false, "", "", 8⟩) rfl (Tx n)
  have h0 := nR (P := Try.prog) (n := n) (off := 0) (k := 1) (g := ⟨"Tests", 2, 0, false, "", "", 0⟩) rfl (by kernel_rfl) (Tx n) h1
  exact qL id (fun _ => rfl) (fun _ _ => trivial) (rJ Try.underlying23 (by kernel_rfl) (by intro a d hd; simp only [List.mem_cons, List.mem_append, List.not_mem_nil, or_false, or_assoc] at hd; rcases hd with rfl | rfl <;> exact ⟨rfl, rfl⟩) h0)
theorem abT : Arg Try.prog 23 eG (fun _ => True) := ⟨agw, .inl ⟨fun _ => rfl, _, Try.underlying23⟩⟩
theorem Fr : ∀ n : Nat, Rd Try.prog n 109 eE (fun _ => True) ∧ Rd Try.prog n 107 (eS 3 eE) (fun _ => True)
 | 0 => ⟨rF, rF⟩
 | n + 1 => by
  have ih := Fr n
  refine ⟨?_, ?_⟩
  ·have h2 := rr (off := 2) (g := ⟨"Kids", 107, 2, false, "", "", 16⟩) rfl ih.2
   have h1 := nR (P := Try.prog) (n := n) (off := 1) (k := 1) (g := ⟨"Num", 2, 1, false, "", "", 8⟩) rfl (by kernel_rfl) (Tx n) h2
   have h0 := nR (P := Try.prog) (n := n) (off := 0) (k := 1) (g := ⟨"Kind", 2, 0, false, "", "", 0⟩) rfl (by kernel_rfl) (Tx n) h1
   exact qL (fun x => Ex.mk x.1 x.2.1 x.2.2.1 x.2.2.2) (fun x => by rw [kQ]; rfl) (fun _ _ => trivial) (rJ Try.underlying109 (by kernel_rfl) (by intro a d hd; simp only [List.mem_cons, List.mem_append, List.not_mem_nil, or_false] at hd; rcases hd with rfl | rfl | rfl <;> exact ⟨rfl, rfl⟩) h0)
  ·exact qL id (fun _ => rfl) (fun _ _ => trivial) (Dy (e := 109) (sz := 3) Try.underlying107 (by kernel_rfl) (by omega) fJ ih.1)
theorem aaT (n : Nat) : Rd Try.prog n 109 eE (fun _ => True) := (Fr n).1
theorem rd107 (n : Nat) : Rd Try.prog n 107 (eS 3 eE) (fun _ => True) := (Fr n).2
theorem acy : ∀ n : Nat, Rd Try.prog n 111 jg (fun _ => True)
 | 0 => rF
 | n + 1 => by
  have h4 := rr (off := 6) (g := ⟨"Else", 2, 6, false, "", "", 64⟩) rfl (Tx n)
  have h3 := nR (P := Try.prog) (n := n) (off := 5) (k := 1) (g := ⟨"To", 2, 5, false, "", "", 56⟩) rfl (by kernel_rfl) (Tx n) h4
  have hq2 : Rd Try.prog n 109 (fun a : Ex => .ag [.sc (.int .i64 a.k), .sc (.int .i64 a.n), .ls a.nn 3 (a.ks.map eE)]) (fun _ => True) := qL id (fun a => (gV a).symm) (fun _ _ => trivial) (aaT n)
  have h2 := YP (P := Try.prog) (n := n) (off := 2) (k := 3) (g := ⟨"Cond", 109, 2, false, "", "", 16⟩) rfl (by kernel_rfl) hq2 h3
  have h1 := nR (P := Try.prog) (n := n) (off := 1) (k := 1) (g := ⟨"Num", 2, 1, false, "", "", 8⟩) rfl (by kernel_rfl) (Tx n) h2
  have h0 := nR (P := Try.prog) (n := n) (off := 0) (k := 1) (g := ⟨"Kind", 2, 0, false, "", "", 0⟩) rfl (by kernel_rfl) (Tx n) h1
  exact qL id (fun _ => rfl) (fun _ _ => trivial) (rJ Try.underlying111 (by kernel_rfl) (by intro a d hd; simp only [List.mem_cons, List.mem_append, List.not_mem_nil, or_false, or_assoc] at hd; rcases hd with rfl | rfl | rfl | rfl | rfl | rfl | rfl <;> exact ⟨rfl, rfl⟩) h0)
theorem agV : ∀ n : Nat, Rd Try.prog n 43 (eS 7 jg) (fun _ => True)
 | 0 => rF
 | n + 1 => qL id (fun _ => rfl) (fun _ _ => trivial) (Dy (e := 111) (sz := 7) Try.underlying43 (by kernel_rfl) (by omega) (fun _ => rfl) (acy n))
theorem agP : ∀ n : Nat, Rd Try.prog n 45 jz (fun _ => True)
 | 0 => rF
 | n + 1 => by
  have h1 := rr (off := 1) (g := ⟨"Spots", 43, 1, false, "", "", 8⟩) rfl (agV n)
  have h0 := nR (P := Try.prog) (n := n) (off := 0) (k := 1) (g := ⟨"Start", 2, 0, false, "", "", 0⟩) rfl (by kernel_rfl) (Tx n) h1
  exact qL id (fun _ => rfl) (fun _ _ => trivial) (rJ Try.underlying45 (by kernel_rfl) (by intro a d hd; simp only [List.mem_cons, List.mem_append, List.not_mem_nil, or_false, or_assoc] at hd; rcases hd with rfl | rfl <;> exact ⟨rfl, rfl⟩) h0)
theorem acx : Arg Try.prog 45 jz (fun _ => True) := ⟨agP, .inl ⟨fun _ => rfl, _, Try.underlying45⟩⟩

set_option maxRecDepth 100000 in
theorem Fg (os : Os) (started : os.Started) (H : Type) (enc : TypeId × Value → H) :
  ReturnsInHanded {} Try.checked os 4 .any (Rows.fnExactFlowAutomatonSpec.pre6 enc Try.prog Try.f4 Rows.fnExactFlowAutomatonRow.domain false) (Rows.fnExactFlowAutomatonSpec.post enc Try.prog Try.f4 false true false false) := by
 refine Dz (C := Try.checked) Try.own started (by kernel_rfl) Try.func4 Try.laidOut rfl (t := 4) rfl Try.underlying4 (by decide +kernel) ?_
  (ChangeSpec.witness6 (enc := enc) (C := Try.checked) false ⟨#[], #[.agg #[.int .i64 0, .int .i64 0], .agg #[.int .i64 0, .slice none 0 0]], []⟩ 8 (by kernel_rfl) (by kernel_rfl) (by kernel_rfl) (by kernel_rfl)) ?_
 ·intro ds hd
  match ds, hd with
  | [a0, a1], _ => exact ⟨rfl, rfl, rfl⟩
 ·intro W b args ds ps ho h
  obtain ⟨x0, x1, hr, _⟩ := OD abT acx ho h
  exact ⟨_, law x0 x1, hr⟩

theorem J4 : Try.checked.prog.funcNamed Rows.fnExactFlowAutomatonRow.func = some 4 := by kernel_rfl
theorem Jm : joinedFacts Try.checked.prog 4 Try.f4 Rows.fnExactFlowAutomatonSpec Rows.fnExactFlowAutomatonRow = true := by kernel_rfl
theorem LU : Try.f4.isInstance Try.checked.prog Rows.fnExactFlowAutomatonRow.origin Rows.fnExactFlowAutomatonRow.targs := of_decide_eq_true (by kernel_rfl)
theorem MC : Try.f4.isWrapper Try.checked.prog Rows.fnExactFlowAutomatonRow.wrapper Rows.fnExactFlowAutomatonRow.mainSum := by
 unfold Func.isWrapper; first | (rw [if_pos (by decide +kernel)]; kernel_rfl) | (rw [if_neg (by decide +kernel)]; exact ⟨rfl, rfl⟩)
theorem law_holds : Rows.FnExactFlowAutomatonSaid :=
 OpenClaim.holds_of_wide 4 Try.f4 rfl rfl rfl rfl rfl rfl rfl ⟨rfl, rfl, rfl, rfl, rfl⟩ rfl rfl rfl rfl rfl J4 Try.func4 Jm LU MC
  (fun os started H enc _ => Fg os started H enc)
#print axioms law_holds
end Go.Proofs.Ytalgnbkjhgncaaa
