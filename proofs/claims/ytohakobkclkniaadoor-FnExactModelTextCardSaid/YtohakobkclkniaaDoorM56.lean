/- THE LAW FnExactModelText: for every input the law returns true and leaves its arguments as they were. No condition. -/
import Derived.Test.YtohakobkclkniaaDoorM55
import Derived.Test.YtohakobkclkniaaDoorAxDoor
import Derived.Test.YtohakobkclkniaaDoorRows
import Derived.Test.YtohakobkclkniaaDoorCards
import Derived.Test.YtohakobkclkniaaDoorTie
set_option linter.unusedSimpArgs false
set_option linter.unusedVariables false
set_option linter.unnecessarySimpa false

namespace Go.Proofs.YtohakobkclkniaaDoor
open Go.Ax Go.ChangeShapes
set_option linter.unusedSimpArgs false

theorem Tryd.own : ownKnob Tryd.prog.godebug = none := by kernel_rfl
theorem Tryd.laidOut : laidOutB Tryd.prog = true := by kernel_rfl
theorem door_met (os : Os) (args : Array Value) : laidMetH Tryd.prog Rows.fnExactModelTextRow.laid ((World.doorLaid Tryd.prog 400 os).forCall (fun _ _ => 0) ⟨#[], args, []⟩).memory :=
 laidMetH_of_parts3 (fuel := 8) (laidMet_of_run' 8 (by kernel_rfl) (by kernel_rfl)) (by kernel_rfl) (by kernel_rfl)

theorem rd2 (n : Nat) : Rd Tryd.prog n 2 eI (fun _ => True) := rd_map id (fun _ => rfl) (fun _ _ => trivial) (rd_int Tryd.underlying2)
theorem rd23 : ∀ n : Nat, Rd Tryd.prog n 23 eG (fun _ => True)
 | 0 => rd_zero
 | n + 1 => by
  have h1 := rdf_cell1 (off := 1) (g := ⟨"Actions", 2, 1, false, "", "", 8⟩) rfl (rd2 n)
  have h0 := rdf_cell (P := Tryd.prog) (n := n) (off := 0) (k := 1) (g := ⟨"Tests", 2, 0, false, "", "", 0⟩) rfl (by kernel_rfl) (rd2 n) h1
  exact rd_map id (fun _ => rfl) (fun _ _ => trivial) (rd_struct Tryd.underlying23 (by kernel_rfl) (by intro a d hd; simp only [List.mem_cons, List.mem_append, List.not_mem_nil, or_false, or_assoc] at hd; rcases hd with rfl | rfl <;> exact ⟨rfl, rfl⟩) h0)
theorem rd4 (n : Nat) : Rd Tryd.prog n 4 eB (fun _ => True) := rd_map id (fun _ => rfl) (fun _ _ => trivial) (rd_bool Tryd.underlying4)
theorem rd141 : ∀ n : Nat, Rd Tryd.prog n 141 (eS 1 eB) (fun _ => True)
 | 0 => rd_zero
 | n + 1 => rd_map id (fun _ => rfl) (fun _ _ => trivial) (rd_slice (e := 4) (sz := 1) Tryd.underlying141 (by kernel_rfl) (by omega) (fun _ => rfl) (rd4 n))
theorem rd24 : ∀ n : Nat, Rd Tryd.prog n 24 (eS 1 (eS 1 eB)) (fun _ => True)
 | 0 => rd_zero
 | n + 1 => rd_map id (fun _ => rfl) (fun _ _ => trivial) (rd_slice (e := 141) (sz := 1) Tryd.underlying24 (by kernel_rfl) (by omega) (fun _ => rfl) (rd141 n))
theorem rd25 : ∀ n : Nat, Rd Tryd.prog n 25 (eS 1 (eS 1 (eS 1 eB))) (fun _ => True)
 | 0 => rd_zero
 | n + 1 => rd_map id (fun _ => rfl) (fun _ _ => trivial) (rd_slice (e := 24) (sz := 1) Tryd.underlying25 (by kernel_rfl) (by omega) (fun _ => rfl) (rd24 n))
theorem rd27 : ∀ n : Nat, Rd Tryd.prog n 27 eM (fun _ => True)
 | 0 => rd_zero
 | n + 1 => by
  have h3 := rdf_cell1 (off := 4) (g := ⟨"Acts", 25, 4, false, "", "", 48⟩) rfl (rd25 n)
  have h2 := rdf_cell (P := Tryd.prog) (n := n) (off := 3) (k := 1) (g := ⟨"Tests", 24, 3, false, "", "", 24⟩) rfl (by kernel_rfl) (rd24 n) h3
  have h1 := rdf_cell (P := Tryd.prog) (n := n) (off := 2) (k := 1) (g := ⟨"Points", 2, 2, false, "", "", 16⟩) rfl (by kernel_rfl) (rd2 n) h2
  have h0 := rdf_ag (P := Tryd.prog) (n := n) (off := 0) (k := 2) (g := ⟨"Sig", 23, 0, false, "", "", 0⟩) rfl (by kernel_rfl) (rd23 n) h1
  exact rd_map id (fun _ => rfl) (fun _ _ => trivial) (rd_struct Tryd.underlying27 (by kernel_rfl) (by intro a d hd; simp only [List.mem_cons, List.mem_append, List.not_mem_nil, or_false, or_assoc] at hd; rcases hd with rfl | rfl | rfl | rfl | rfl <;> exact ⟨rfl, rfl⟩) h0)
theorem arg27 : Arg Tryd.prog 27 eM (fun _ => True) := ⟨rd27, .inl ⟨fun _ => rfl, _, Tryd.underlying27⟩⟩

set_option maxRecDepth 100000 in
theorem law_lifted (os : Os) (started : os.Started) (H : Type) (enc : TypeId × Value → H) :
  ReturnsInHanded {} Tryd.checked os 3 .any (fun w args => (Rows.fnExactModelTextSpec.pre enc Tryd.prog Tryd.f3 [] false w args ∧ laidMetH Tryd.prog Rows.fnExactModelTextRow.laid w) ∧ sizedMet enc Tryd.prog Tryd.f3 (OpenSpec.ofChange Rows.fnExactModelTextSpec) false w args) (Rows.fnExactModelTextSpec.post enc Tryd.prog Tryd.f3 false true false false) := by
 refine lifted_laid (C := Tryd.checked) Tryd.own started (by kernel_rfl) Tryd.func3 Tryd.laidOut rfl (t := 4) rfl Tryd.underlying4 (by decide +kernel) ?_
  (ChangeSpec.witness_shaped (enc := enc) (C := Tryd.checked) (os := os) (X := fun w _ => laidMetH Tryd.prog Rows.fnExactModelTextRow.laid w) false (World.doorLaid Tryd.prog 400 os) #[.agg #[.int .i64 0, .int .i64 0, .int .i64 0, .slice none 0 0, .slice none 0 0]] 8 rfl (World.shaped_of_RefB (by kernel_rfl) (by kernel_rfl)) (by kernel_rfl) (by kernel_rfl) (by kernel_rfl) (door_met os _)) ?_
 ·intro ds hd
  match ds, hd with
  | [a0], _ => exact ⟨rfl, rfl, rfl⟩
 ·intro W b args ds ps ho h
  obtain ⟨x0, hr, _⟩ := args_one arg27 ho h
  exact ⟨_, law x0, hr⟩

theorem law_named : Tryd.checked.prog.funcNamed Rows.fnExactModelTextRow.func = some 3 := by kernel_rfl
theorem law_facts : joinedFacts Tryd.checked.prog 3 Tryd.f3 Rows.fnExactModelTextSpec Rows.fnExactModelTextRow = true := by kernel_rfl
theorem law_inst : Tryd.f3.isInstance Tryd.checked.prog Rows.fnExactModelTextRow.origin Rows.fnExactModelTextRow.targs := of_decide_eq_true (by kernel_rfl)
theorem law_wrap : Tryd.f3.isWrapper Tryd.checked.prog Rows.fnExactModelTextRow.wrapper Rows.fnExactModelTextRow.mainSum := by
 unfold Func.isWrapper; first | (rw [if_pos (by decide +kernel)]; kernel_rfl) | (rw [if_neg (by decide +kernel)]; exact ⟨rfl, rfl⟩)
theorem law_row : Rows.FnExactModelTextSaid :=
 OpenClaim.holds_of_wide 3 Tryd.f3 rfl rfl rfl rfl rfl rfl rfl ⟨rfl, rfl, rfl, rfl, rfl⟩ rfl rfl rfl rfl rfl law_named Tryd.func3 law_facts law_inst law_wrap
  (fun os started H enc _ => law_lifted os started H enc)

theorem law_holds : Rows.FnExactModelTextCardSaid :=
 Claim7.holds_tied_plain_at .later [] [.data, .data, .data] true (true, "b8b3ed38c2d05acad8914fda55e01573df68b827ad715727f214cd1c0a8e98be") false
  law_row (fun _ h => by cases h) (by kernel_rfl) (fun _ h => by cases h) fnExactModelText_row_tie rfl ⟨rfl, rfl⟩ (by kernel_rfl) rfl
  (fun f fn hf hfn => by
   obtain rfl : f = 3 := Option.some.inj (law_named.symm.trans hf) |>.symm
   obtain rfl : fn = Tryd.f3 := (Option.some.inj (Tryd.func3.symm.trans hfn)).symm
   exact ⟨by kernel_rfl, fun j t ht => by
    have ht : (Tryd.f3.params)[j]? = some t := ht
    rw [Tryd.params3] at ht
    have hm : t ∈ [27] := by simpa using Array.mem_of_getElem? ht
    have hall : ([27].all fun u => !Tryd.prog.wantsStandIn u) = true := by kernel_rfl
    exact (show Tryd.prog.wantsStandIn t = false by simpa using List.all_eq_true.1 hall t hm)⟩)
  (by kernel_rfl)
#print axioms law_holds
end Go.Proofs.YtohakobkclkniaaDoor
