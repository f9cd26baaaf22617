/- THE LAW FnExactFlowText: for every input the law returns true and leaves its arguments as they were. No condition. -/
import Derived.Test.YtohakobkclkniaaDoorM61
import Derived.Test.YtohakobkclkniaaDoorAxDoor
import Derived.Test.YtohakobkclkniaaDoorRows
import Derived.Test.YtohakobkclkniaaDoorCards
import Derived.Test.YtohakobkclkniaaDoorTie
set_option linter.unusedSimpArgs false
set_option linter.unusedVariables false
set_option linter.unnecessarySimpa false

namespace Go.Proofs.YtohakobkclkniaaDoor
open Go.Ax Go.ChangeShapes
set_option linter.unusedSimpArgs false

theorem Tryd.own : ownKnob Tryd.prog.godebug = none := by kernel_rfl
theorem Tryd.laidOut : laidOutB Tryd.prog = true := by kernel_rfl
theorem door_met (os : Os) (args : Array Value) : laidMetH Tryd.prog Rows.fnExactFlowTextRow.laid ((World.doorLaid Tryd.prog 400 os).forCall (fun _ _ => 0) ⟨#[], args, []⟩).memory :=
 laidMetH_of_parts3 (fuel := 8) (laidMet_of_run' 8 (by kernel_rfl) (by kernel_rfl)) (by kernel_rfl) (by kernel_rfl)

theorem rd2 (n : Nat) : Rd Tryd.prog n 2 eI (fun _ => True) := rd_map id (fun _ => rfl) (fun _ _ => trivial) (rd_int Tryd.underlying2)
theorem rd23 : ∀ n : Nat, Rd Tryd.prog n 23 eG (fun _ => True)
 | 0 => rd_zero
 | n + 1 => by
  have h1 := rdf_cell1 (off := 1) (g := ⟨"Actions", 2, 1, false, "", "", 8⟩) rfl (rd2 n)
  have h0 := rdf_cell (P := Tryd.prog) (n := n) (off := 0) (k := 1) (g := ⟨"Tests", 2, 0, false, "", "", 0⟩) rfl (by kernel_rfl) (rd2 n) h1
  exact rd_map id (fun _ => rfl) (fun _ _ => trivial) (rd_struct Tryd.underlying23 (by kernel_rfl) (by intro a d hd; simp only [List.mem_cons, List.mem_append, List.not_mem_nil, or_false, or_assoc] at hd; rcases hd with rfl | rfl <;> exact ⟨rfl, rfl⟩) h0)
theorem arg23 : Arg Tryd.prog 23 eG (fun _ => True) := ⟨rd23, .inl ⟨fun _ => rfl, _, Tryd.underlying23⟩⟩
theorem rdb38 : ∀ n : Nat, Rd Tryd.prog n 38 eE (fun _ => True) ∧ Rd Tryd.prog n 36 (eS 3 eE) (fun _ => True)
 | 0 => ⟨rd_zero, rd_zero⟩
 | n + 1 => by
  have ih := rdb38 n
  refine ⟨?_, ?_⟩
  ·have h2 := rdf_cell1 (off := 2) (g := ⟨"Kids", 36, 2, false, "", "", 16⟩) rfl ih.2
   have h1 := rdf_cell (P := Tryd.prog) (n := n) (off := 1) (k := 1) (g := ⟨"Num", 2, 1, false, "", "", 8⟩) rfl (by kernel_rfl) (rd2 n) h2
   have h0 := rdf_cell (P := Tryd.prog) (n := n) (off := 0) (k := 1) (g := ⟨"Kind", 2, 0, false, "", "", 0⟩) rfl (by kernel_rfl) (rd2 n) h1
   exact rd_map (fun x => Ex.mk x.1 x.2.1 x.2.2.1 x.2.2.2) (fun x => by rw [eE_mk]; rfl) (fun _ _ => trivial) (rd_struct Tryd.underlying38 (by kernel_rfl) (by intro a d hd; simp only [List.mem_cons, List.mem_append, List.not_mem_nil, or_false] at hd; rcases hd with rfl | rfl | rfl <;> exact ⟨rfl, rfl⟩) h0)
  ·exact rd_map id (fun _ => rfl) (fun _ _ => trivial) (rd_slice (e := 38) (sz := 3) Tryd.underlying36 (by kernel_rfl) (by omega) eE_size ih.1)
theorem rd38 (n : Nat) : Rd Tryd.prog n 38 eE (fun _ => True) := (rdb38 n).1
theorem rd36 (n : Nat) : Rd Tryd.prog n 36 (eS 3 eE) (fun _ => True) := (rdb38 n).2
theorem rd154 : ∀ n : Nat, Rd Tryd.prog n 154 eSp (fun _ => True)
 | 0 => rd_zero
 | n + 1 => by
  have h4 := rdf_cell1 (off := 6) (g := ⟨"Else", 2, 6, false, "", "", 64⟩) rfl (rd2 n)
  have h3 := rdf_cell (P := Tryd.prog) (n := n) (off := 5) (k := 1) (g := ⟨"To", 2, 5, false, "", "", 56⟩) rfl (by kernel_rfl) (rd2 n) h4
  have hq2 : Rd Tryd.prog n 38 (fun a : Ex => .ag [.sc (.int .i64 a.k), .sc (.int .i64 a.n), .ls a.nn 3 (a.ks.map eE)]) (fun _ => True) := rd_map id (fun a => (eE_eta a).symm) (fun _ _ => trivial) (rd38 n)
  have h2 := rdf_ag (P := Tryd.prog) (n := n) (off := 2) (k := 3) (g := ⟨"Cond", 38, 2, false, "", "", 16⟩) rfl (by kernel_rfl) hq2 h3
  have h1 := rdf_cell (P := Tryd.prog) (n := n) (off := 1) (k := 1) (g := ⟨"Num", 2, 1, false, "", "", 8⟩) rfl (by kernel_rfl) (rd2 n) h2
  have h0 := rdf_cell (P := Tryd.prog) (n := n) (off := 0) (k := 1) (g := ⟨"Kind", 2, 0, false, "", "", 0⟩) rfl (by kernel_rfl) (rd2 n) h1
  exact rd_map id (fun _ => rfl) (fun _ _ => trivial) (rd_struct Tryd.underlying154 (by kernel_rfl) (by intro a d hd; simp only [List.mem_cons, List.mem_append, List.not_mem_nil, or_false, or_assoc] at hd; rcases hd with rfl | rfl | rfl | rfl | rfl | rfl | rfl <;> exact ⟨rfl, rfl⟩) h0)
theorem rd52 : ∀ n : Nat, Rd Tryd.prog n 52 (eS 7 eSp) (fun _ => True)
 | 0 => rd_zero
 | n + 1 => rd_map id (fun _ => rfl) (fun _ _ => trivial) (rd_slice (e := 154) (sz := 7) Tryd.underlying52 (by kernel_rfl) (by omega) (fun _ => rfl) (rd154 n))
theorem rd54 : ∀ n : Nat, Rd Tryd.prog n 54 eFl (fun _ => True)
 | 0 => rd_zero
 | n + 1 => by
  have h1 := rdf_cell1 (off := 1) (g := ⟨"Spots", 52, 1, false, "", "", 8⟩) rfl (rd52 n)
  have h0 := rdf_cell (P := Tryd.prog) (n := n) (off := 0) (k := 1) (g := ⟨"Start", 2, 0, false, "", "", 0⟩) rfl (by kernel_rfl) (rd2 n) h1
  exact rd_map id (fun _ => rfl) (fun _ _ => trivial) (rd_struct Tryd.underlying54 (by kernel_rfl) (by intro a d hd; simp only [List.mem_cons, List.mem_append, List.not_mem_nil, or_false, or_assoc] at hd; rcases hd with rfl | rfl <;> exact ⟨rfl, rfl⟩) h0)
theorem arg54 : Arg Tryd.prog 54 eFl (fun _ => True) := ⟨rd54, .inl ⟨fun _ => rfl, _, Tryd.underlying54⟩⟩

set_option maxRecDepth 100000 in
theorem law_lifted (os : Os) (started : os.Started) (H : Type) (enc : TypeId × Value → H) :
  ReturnsInHanded {} Tryd.checked os 5 .any (fun w args => (Rows.fnExactFlowTextSpec.pre enc Tryd.prog Tryd.f5 [] false w args ∧ laidMetH Tryd.prog Rows.fnExactFlowTextRow.laid w) ∧ sizedMet enc Tryd.prog Tryd.f5 (OpenSpec.ofChange Rows.fnExactFlowTextSpec) false w args) (Rows.fnExactFlowTextSpec.post enc Tryd.prog Tryd.f5 false true false false) := by
 refine lifted_laid (C := Tryd.checked) Tryd.own started (by kernel_rfl) Tryd.func5 Tryd.laidOut rfl (t := 4) rfl Tryd.underlying4 (by decide +kernel) ?_
  (ChangeSpec.witness_shaped (enc := enc) (C := Tryd.checked) (os := os) (X := fun w _ => laidMetH Tryd.prog Rows.fnExactFlowTextRow.laid w) false (World.doorLaid Tryd.prog 400 os) #[.agg #[.int .i64 0, .int .i64 0], .agg #[.int .i64 0, .slice none 0 0]] 8 rfl (World.shaped_of_RefB (by kernel_rfl) (by kernel_rfl)) (by kernel_rfl) (by kernel_rfl) (by kernel_rfl) (door_met os _)) ?_
 ·intro ds hd
  match ds, hd with
  | [a0, a1], _ => exact ⟨rfl, rfl, rfl⟩
 ·intro W b args ds ps ho h
  obtain ⟨x0, x1, hr, _⟩ := args_two arg23 arg54 ho h
  exact ⟨_, law x0 x1, hr⟩

theorem law_named : Tryd.checked.prog.funcNamed Rows.fnExactFlowTextRow.func = some 5 := by kernel_rfl
theorem law_facts : joinedFacts Tryd.checked.prog 5 Tryd.f5 Rows.fnExactFlowTextSpec Rows.fnExactFlowTextRow = true := by kernel_rfl
theorem law_inst : Tryd.f5.isInstance Tryd.checked.prog Rows.fnExactFlowTextRow.origin Rows.fnExactFlowTextRow.targs := of_decide_eq_true (by kernel_rfl)
theorem law_wrap : Tryd.f5.isWrapper Tryd.checked.prog Rows.fnExactFlowTextRow.wrapper Rows.fnExactFlowTextRow.mainSum := by
 unfold Func.isWrapper; first | (rw [if_pos (by decide +kernel)]; kernel_rfl) | (rw [if_neg (by decide +kernel)]; exact ⟨rfl, rfl⟩)
theorem law_row : Rows.FnExactFlowTextSaid :=
 OpenClaim.holds_of_wide 5 Tryd.f5 rfl rfl rfl rfl rfl rfl rfl ⟨rfl, rfl, rfl, rfl, rfl⟩ rfl rfl rfl rfl rfl law_named Tryd.func5 law_facts law_inst law_wrap
  (fun os started H enc _ => law_lifted os started H enc)

theorem law_holds : Rows.FnExactFlowTextCardSaid :=
 Claim7.holds_tied_plain_at .later [] [.data, .data, .data] true (true, "b8b3ed38c2d05acad8914fda55e01573df68b827ad715727f214cd1c0a8e98be") false
  law_row (fun _ h => by cases h) (by kernel_rfl) (fun _ h => by cases h) fnExactFlowText_row_tie rfl ⟨rfl, rfl⟩ (by kernel_rfl) rfl
  (fun f fn hf hfn => by
   obtain rfl : f = 5 := Option.some.inj (law_named.symm.trans hf) |>.symm
   obtain rfl : fn = Tryd.f5 := (Option.some.inj (Tryd.func5.symm.trans hfn)).symm
   exact ⟨by kernel_rfl, fun j t ht => by
    have ht : (Tryd.f5.params)[j]? = some t := ht
    rw [Tryd.params5] at ht
    have hm : t ∈ [23, 54] := by simpa using Array.mem_of_getElem? ht
    have hall : ([23, 54].all fun u => !Tryd.prog.wantsStandIn u) = true := by kernel_rfl
    exact (show Tryd.prog.wantsStandIn t = false by simpa using List.all_eq_true.1 hall t hm)⟩)
  (by kernel_rfl)
#print axioms law_holds
end Go.Proofs.YtohakobkclkniaaDoor
