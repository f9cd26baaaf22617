/- THE LAW FnExactProofText: for every input the law returns true and leaves its arguments as they were. No condition. -/
import Derived.Test.YtcmcncenncobfaaDoorM75
import Derived.Test.YtcmcncenncobfaaDoorXxE
import Derived.Stop.LaidErr
import Derived.Lib.LaidTab
import Derived.MakeChecks
import Derived.Test.YtcmcncenncobfaaDoorRows
import Derived.Test.YtcmcncenncobfaaDoorCards
import Derived.Test.YtcmcncenncobfaaDoorTie
set_option linter.unusedSimpArgs false
set_option linter.unusedVariables false
set_option linter.unnecessarySimpa false
set_option linter.unusedSectionVars false

namespace Go.Proofs.YtcmcncenncobfaaDoor
open Go.Ax Go.ChangeShapes
set_option linter.unusedSimpArgs false

theorem Tryd.own : ownKnob Tryd.prog.godebug = none := by kernel_rfl
theorem Tryd.laidOut : laidOutB Tryd.prog = true := by kernel_rfl
theorem door_met (os : Os) (args : Array Value) : laidMetH Tryd.prog Rows.fnExactProofTextRow.laid ((World.doorLaid Tryd.prog 400 os).forCall (fun _ _ => 0) ⟨#[], args, []⟩).memory :=
 laidMetH_of_parts3 (fuel := 8) (laidMet_of_run' 8 (by kernel_rfl) (by kernel_rfl)) (by kernel_rfl) (by kernel_rfl)

theorem rd2 (n : Nat) : Rd Tryd.prog n 2 eI (fun _ => True) := rd_map id (fun _ => rfl) (fun _ _ => trivial) (rd_int Tryd.underlying2)
theorem rd23 : ∀ n : Nat, Rd Tryd.prog n 23 eG (fun _ => True)
 | 0 => rd_zero
 | n + 1 => by
  have h1 := rdf_cell1 (off := 1) (g := ⟨"Actions", 2, 1, false, "", "", 8⟩) rfl (rd2 n)
  have h0 := rdf_cell (P := Tryd.prog) (n := n) (off := 0) (k := 1) (g := ⟨"Tests", 2, 0, false, "", "", 0⟩) rfl (by kernel_rfl) (rd2 n) h1
  exact rd_map id (fun _ => rfl) (fun _ _ => trivial) (rd_struct Tryd.underlying23 (by kernel_rfl) (by intro a d hd; simp only [List.mem_cons, List.mem_append, List.not_mem_nil, or_false, or_assoc] at hd; rcases hd with rfl | rfl <;> exact ⟨rfl, rfl⟩) h0)
theorem rdb48 : ∀ n : Nat, Rd Tryd.prog n 48 eE (fun _ => True) ∧ Rd Tryd.prog n 46 (eS 3 eE) (fun _ => True)
 | 0 => ⟨rd_zero, rd_zero⟩
 | n + 1 => by
  have ih := rdb48 n
  refine ⟨?_, ?_⟩
  ·have h2 := rdf_cell1 (off := 2) (g := ⟨"Kids", 46, 2, false, "", "", 16⟩) rfl ih.2
   have h1 := rdf_cell (P := Tryd.prog) (n := n) (off := 1) (k := 1) (g := ⟨"Num", 2, 1, false, "", "", 8⟩) rfl (by kernel_rfl) (rd2 n) h2
   have h0 := rdf_cell (P := Tryd.prog) (n := n) (off := 0) (k := 1) (g := ⟨"Kind", 2, 0, false, "", "", 0⟩) rfl (by kernel_rfl) (rd2 n) h1
   exact rd_map (fun x => Ex.mk x.1 x.2.1 x.2.2.1 x.2.2.2) (fun x => by rw [eE_mk]; rfl) (fun _ _ => trivial) (rd_struct Tryd.underlying48 (by kernel_rfl) (by intro a d hd; simp only [List.mem_cons, List.mem_append, List.not_mem_nil, or_false] at hd; rcases hd with rfl | rfl | rfl <;> exact ⟨rfl, rfl⟩) h0)
  ·exact rd_map id (fun _ => rfl) (fun _ _ => trivial) (rd_slice (e := 48) (sz := 3) Tryd.underlying46 (by kernel_rfl) (by omega) eE_size ih.1)
theorem rd48 (n : Nat) : Rd Tryd.prog n 48 eE (fun _ => True) := (rdb48 n).1
theorem rd46 (n : Nat) : Rd Tryd.prog n 46 (eS 3 eE) (fun _ => True) := (rdb48 n).2
theorem rd4 (n : Nat) : Rd Tryd.prog n 4 eB (fun _ => True) := rd_map id (fun _ => rfl) (fun _ _ => trivial) (rd_bool Tryd.underlying4)
theorem rd68 : ∀ n : Nat, Rd Tryd.prog n 68 (eS 1 eI) (fun _ => True)
 | 0 => rd_zero
 | n + 1 => rd_map id (fun _ => rfl) (fun _ _ => trivial) (rd_slice (e := 2) (sz := 1) Tryd.underlying68 (by kernel_rfl) (by omega) (fun _ => rfl) (rd2 n))
theorem rd110 : ∀ n : Nat, Rd Tryd.prog n 110 eSt (fun _ => True)
 | 0 => rd_zero
 | n + 1 => by
  have h4 := rdf_cell1 (off := 4) (g := ⟨"Acts", 46, 4, false, "", "", 64⟩) rfl (rd46 n)
  have h3 := rdf_cell (P := Tryd.prog) (n := n) (off := 3) (k := 1) (g := ⟨"Tests", 46, 3, false, "", "", 40⟩) rfl (by kernel_rfl) (rd46 n) h4
  have h2 := rdf_cell (P := Tryd.prog) (n := n) (off := 2) (k := 1) (g := ⟨"Path", 68, 2, false, "", "", 16⟩) rfl (by kernel_rfl) (rd68 n) h3
  have h1 := rdf_cell (P := Tryd.prog) (n := n) (off := 1) (k := 1) (g := ⟨"Back", 4, 1, false, "", "", 8⟩) rfl (by kernel_rfl) (rd4 n) h2
  have h0 := rdf_cell (P := Tryd.prog) (n := n) (off := 0) (k := 1) (g := ⟨"Use", 2, 0, false, "", "", 0⟩) rfl (by kernel_rfl) (rd2 n) h1
  exact rd_map id (fun _ => rfl) (fun _ _ => trivial) (rd_struct Tryd.underlying110 (by kernel_rfl) (by intro a d hd; simp only [List.mem_cons, List.mem_append, List.not_mem_nil, or_false, or_assoc] at hd; rcases hd with rfl | rfl | rfl | rfl | rfl <;> exact ⟨rfl, rfl⟩) h0)
theorem rd49 : ∀ n : Nat, Rd Tryd.prog n 49 (eS 5 eSt) (fun _ => True)
 | 0 => rd_zero
 | n + 1 => rd_map id (fun _ => rfl) (fun _ _ => trivial) (rd_slice (e := 110) (sz := 5) Tryd.underlying49 (by kernel_rfl) (by omega) (fun _ => rfl) (rd110 n))
theorem rd51 : ∀ n : Nat, Rd Tryd.prog n 51 eCl (fun _ => True)
 | 0 => rd_zero
 | n + 1 => by
  have h4 := rdf_cell1 (off := 8) (g := ⟨"Steps", 49, 8, false, "", "", 96⟩) rfl (rd49 n)
  have h3 := rdf_cell (P := Tryd.prog) (n := n) (off := 7) (k := 1) (g := ⟨"Ref", 2, 7, false, "", "", 88⟩) rfl (by kernel_rfl) (rd2 n) h4
  have h2 := rdf_cell (P := Tryd.prog) (n := n) (off := 6) (k := 1) (g := ⟨"Rule", 2, 6, false, "", "", 80⟩) rfl (by kernel_rfl) (rd2 n) h3
  have hq1 : Rd Tryd.prog n 48 (fun a : Ex => .ag [.sc (.int .i64 a.k), .sc (.int .i64 a.n), .ls a.nn 3 (a.ks.map eE)]) (fun _ => True) := rd_map id (fun a => (eE_eta a).symm) (fun _ _ => trivial) (rd48 n)
  have h1 := rdf_ag (P := Tryd.prog) (n := n) (off := 3) (k := 3) (g := ⟨"Right", 48, 3, false, "", "", 40⟩) rfl (by kernel_rfl) hq1 h2
  have hq0 : Rd Tryd.prog n 48 (fun a : Ex => .ag [.sc (.int .i64 a.k), .sc (.int .i64 a.n), .ls a.nn 3 (a.ks.map eE)]) (fun _ => True) := rd_map id (fun a => (eE_eta a).symm) (fun _ _ => trivial) (rd48 n)
  have h0 := rdf_ag (P := Tryd.prog) (n := n) (off := 0) (k := 3) (g := ⟨"Left", 48, 0, false, "", "", 0⟩) rfl (by kernel_rfl) hq0 h1
  exact rd_map id (fun _ => rfl) (fun _ _ => trivial) (rd_struct Tryd.underlying51 (by kernel_rfl) (by intro a d hd; simp only [List.mem_cons, List.mem_append, List.not_mem_nil, or_false, or_assoc] at hd; rcases hd with rfl | rfl | rfl | rfl | rfl | rfl | rfl | rfl | rfl <;> exact ⟨rfl, rfl⟩) h0)
theorem rd24 : ∀ n : Nat, Rd Tryd.prog n 24 (eS 9 eCl) (fun _ => True)
 | 0 => rd_zero
 | n + 1 => rd_map id (fun _ => rfl) (fun _ _ => trivial) (rd_slice (e := 51) (sz := 9) Tryd.underlying24 (by kernel_rfl) (by omega) (fun _ => rfl) (rd51 n))
theorem rd26 : ∀ n : Nat, Rd Tryd.prog n 26 ePf (fun _ => True)
 | 0 => rd_zero
 | n + 1 => by
  have h1 := rdf_cell1 (off := 2) (g := ⟨"Claims", 24, 2, false, "", "", 16⟩) rfl (rd24 n)
  have h0 := rdf_ag (P := Tryd.prog) (n := n) (off := 0) (k := 2) (g := ⟨"Sig", 23, 0, false, "", "", 0⟩) rfl (by kernel_rfl) (rd23 n) h1
  exact rd_map id (fun _ => rfl) (fun _ _ => trivial) (rd_struct Tryd.underlying26 (by kernel_rfl) (by intro a d hd; simp only [List.mem_cons, List.mem_append, List.not_mem_nil, or_false, or_assoc] at hd; rcases hd with rfl | rfl | rfl <;> exact ⟨rfl, rfl⟩) h0)
theorem arg26 : Arg Tryd.prog 26 ePf (fun _ => True) := ⟨rd26, .inl ⟨fun _ => rfl, _, Tryd.underlying26⟩⟩

set_option maxRecDepth 100000 in

theorem hwk (w : World) (h : laidMetH Tryd.prog Rows.fnExactProofTextRow.laid w) : WOk Tryd.prog w := by
 rw [MakeChecks.laidMetH_plain _ _ _ (by rfl)] at h
 exact Lib.tabIs_of_head (g := 0) (t := 140) (by kernel_rfl) (by kernel_rfl) Tryd.underlying140 Tryd.underlying132 (by kernel_rfl) (by kernel_rfl) h.tail.tail
set_option maxRecDepth 100000 in
theorem law_lifted (os : Os) (started : os.Started) (H : Type) (enc : TypeId × Value → H) :
  ReturnsInHanded {} Tryd.checked os 3 .any (fun w args => (Rows.fnExactProofTextSpec.pre enc Tryd.prog Tryd.f3 [] false w args ∧ laidMetH Tryd.prog Rows.fnExactProofTextRow.laid w) ∧ sizedMet enc Tryd.prog Tryd.f3 (OpenSpec.ofChange Rows.fnExactProofTextSpec) false w args) (Rows.fnExactProofTextSpec.post enc Tryd.prog Tryd.f3 false true false false) := by
 refine lifted_laid (C := Tryd.checked) Tryd.own started (by kernel_rfl) Tryd.func3 Tryd.laidOut rfl (t := 4) rfl Tryd.underlying4 (by decide +kernel) ?_
  (ChangeSpec.witness_shaped (enc := enc) (C := Tryd.checked) (os := os) (X := fun w _ => laidMetH Tryd.prog Rows.fnExactProofTextRow.laid w) false (World.doorLaid Tryd.prog 400 os) #[.agg #[.int .i64 0, .int .i64 0, .slice none 0 0]] 8 rfl (World.shaped_of_RefB (by kernel_rfl) (by kernel_rfl)) (by kernel_rfl) (by kernel_rfl) (by kernel_rfl) (door_met os _)) hwk ?_
 ·intro ds hd
  match ds, hd with
  | [a0], _ => exact ⟨rfl, rfl, rfl⟩
 ·intro W b args ds ps ho h
  obtain ⟨x0, hr, _⟩ := args_one arg26 ho h
  exact ⟨_, law x0, hr⟩

theorem law_named : Tryd.checked.prog.funcNamed Rows.fnExactProofTextRow.func = some 3 := by kernel_rfl
theorem law_facts : joinedFacts Tryd.checked.prog 3 Tryd.f3 Rows.fnExactProofTextSpec Rows.fnExactProofTextRow = true := by kernel_rfl
theorem law_inst : Tryd.f3.isInstance Tryd.checked.prog Rows.fnExactProofTextRow.origin Rows.fnExactProofTextRow.targs := of_decide_eq_true (by kernel_rfl)
theorem law_wrap : Tryd.f3.isWrapper Tryd.checked.prog Rows.fnExactProofTextRow.wrapper Rows.fnExactProofTextRow.mainSum := by
 unfold Func.isWrapper; first | (rw [if_pos (by decide +kernel)]; kernel_rfl) | (rw [if_neg (by decide +kernel)]; exact ⟨rfl, rfl⟩)
theorem law_row : Rows.FnExactProofTextSaid :=
 OpenClaim.holds_of_wide 3 Tryd.f3 rfl rfl rfl rfl rfl rfl rfl ⟨rfl, rfl, rfl, rfl, rfl⟩ rfl rfl rfl rfl rfl law_named Tryd.func3 law_facts law_inst law_wrap
  (fun os started H enc _ => law_lifted os started H enc)
set_option maxHeartbeats 4000000 in

theorem law_holds : Rows.FnExactProofTextCardSaid :=
 Claim7.holds_tied_plain_at .later [] [.data, .data, .data] true (true, "622101a2611a562683762b938ba238ce575e839a069df3f9bdcadd223df90a62") false
  law_row (fun _ h => by cases h) (by kernel_rfl) (fun _ h => by cases h) fnExactProofText_row_tie rfl ⟨rfl, rfl⟩ (by kernel_rfl) rfl
  (fun f fn hf hfn => by
   obtain rfl : f = 3 := Option.some.inj (law_named.symm.trans hf) |>.symm
   obtain rfl : fn = Tryd.f3 := (Option.some.inj (Tryd.func3.symm.trans hfn)).symm
   exact ⟨by kernel_rfl, fun j t ht => by
    have ht : (Tryd.f3.params)[j]? = some t := ht
    rw [Tryd.params3] at ht
    have hm : t ∈ [26] := by simpa using Array.mem_of_getElem? ht
    have hall : ([26].all fun u => !Tryd.prog.wantsStandIn u) = true := by kernel_rfl
    exact (show Tryd.prog.wantsStandIn t = false by simpa using List.all_eq_true.1 hall t hm)⟩)
  (by kernel_rfl)
#print axioms law_holds
end Go.Proofs.YtcmcncenncobfaaDoor
