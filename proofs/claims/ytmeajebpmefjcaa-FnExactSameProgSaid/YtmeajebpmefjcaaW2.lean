/- THE LAW FnExactSameProg: for every input the law returns true and leaves its arguments as they were. No condition. -/
import Derived.Test.YtmeajebpmefjcaaW1
import Derived.Test.YtmeajebpmefjcaaAxD
import Derived.Test.YtmeajebpmefjcaaRows

namespace Go.Proofs.Ytmeajebpmefjcaa
open Go.Ax Go.ChangeShapes
set_option linter.unusedSimpArgs false

theorem Try.own : ownKnob Try.prog.godebug = none := by kernel_rfl
theorem Try.laidOut : laidOutB Try.prog = true := by kernel_rfl

theorem rd2 (n : Nat) : Rd Try.prog n 2 eI (fun _ => True) := rd_map id (fun _ => rfl) (fun _ _ => trivial) (rd_int Try.underlying2)
theorem rdb38 : ∀ n : Nat, Rd Try.prog n 38 eE (fun _ => True) ∧ Rd Try.prog n 36 (eS 3 eE) (fun _ => True)
  | 0 => ⟨rd_zero, rd_zero⟩
  | n + 1 => by
    have ih := rdb38 n
    refine ⟨?_, ?_⟩
    · have h2 := rdf_cell1 (off := 2) (g := ⟨"Kids", 36, 2, false, "", "", 16⟩) rfl ih.2
      have h1 := rdf_cell (P := Try.prog) (n := n) (off := 1) (k := 1) (g := ⟨"Num", 2, 1, false, "", "", 8⟩) rfl (by kernel_rfl) (rd2 n) h2
      have h0 := rdf_cell (P := Try.prog) (n := n) (off := 0) (k := 1) (g := ⟨"Kind", 2, 0, false, "", "", 0⟩) rfl (by kernel_rfl) (rd2 n) h1
      exact rd_map (fun x => Ex.mk x.1 x.2.1 x.2.2.1 x.2.2.2) (fun x => by rw [eE_mk]; rfl) (fun _ _ => trivial) (rd_struct Try.underlying38 (by kernel_rfl) (by intro a d hd; simp only [List.mem_cons, List.mem_append, List.not_mem_nil, or_false] at hd; rcases hd with rfl | rfl | rfl <;> exact ⟨rfl, rfl⟩) h0)
    · exact rd_map id (fun _ => rfl) (fun _ _ => trivial) (rd_slice (e := 38) (sz := 3) Try.underlying36 (by kernel_rfl) (by omega) eE_size ih.1)
theorem rd38 (n : Nat) : Rd Try.prog n 38 eE (fun _ => True) := (rdb38 n).1
theorem rd36 (n : Nat) : Rd Try.prog n 36 (eS 3 eE) (fun _ => True) := (rdb38 n).2
theorem rdb41 : ∀ n : Nat, Rd Try.prog n 41 eP (fun _ => True) ∧ Rd Try.prog n 39 (eS 6 eP) (fun _ => True)
  | 0 => ⟨rd_zero, rd_zero⟩
  | n + 1 => by
    have ih := rdb41 n
    refine ⟨?_, ?_⟩
    · have h3 := rdf_cell1 (off := 5) (g := ⟨"Kids", 39, 5, false, "", "", 56⟩) rfl ih.2
      have hq : Rd Try.prog n 38 (fun a : Ex => .ag [.sc (.int .i64 a.k), .sc (.int .i64 a.n), .ls a.nn 3 (a.ks.map eE)]) (fun _ => True) := rd_map id (fun a => (eE_eta a).symm) (fun _ _ => trivial) (rd38 n)
      have h2 := rdf_ag (P := Try.prog) (n := n) (off := 2) (k := 3) (g := ⟨"Cond", 38, 2, false, "", "", 16⟩) rfl (by kernel_rfl) hq h3
      have h1 := rdf_cell (P := Try.prog) (n := n) (off := 1) (k := 1) (g := ⟨"Num", 2, 1, false, "", "", 8⟩) rfl (by kernel_rfl) (rd2 n) h2
      have h0 := rdf_cell (P := Try.prog) (n := n) (off := 0) (k := 1) (g := ⟨"Kind", 2, 0, false, "", "", 0⟩) rfl (by kernel_rfl) (rd2 n) h1
      exact rd_map (fun x => Pg.mk x.1 x.2.1 x.2.2.1 x.2.2.2.1 x.2.2.2.2) (fun x => by rw [eP_mk]; rfl) (fun _ _ => trivial) (rd_struct Try.underlying41 (by kernel_rfl) (by intro a d hd; simp only [List.mem_cons, List.mem_append, List.not_mem_nil, or_false] at hd; rcases hd with rfl | rfl | (rfl | rfl | rfl) | rfl <;> exact ⟨rfl, rfl⟩) h0)
    · exact rd_map id (fun _ => rfl) (fun _ _ => trivial) (rd_slice (e := 41) (sz := 6) Try.underlying39 (by kernel_rfl) (by omega) eP_size ih.1)
theorem rd41 (n : Nat) : Rd Try.prog n 41 eP (fun _ => True) := (rdb41 n).1
theorem rd39 (n : Nat) : Rd Try.prog n 39 (eS 6 eP) (fun _ => True) := (rdb41 n).2
theorem arg41 : Arg Try.prog 41 eP (fun _ => True) := ⟨rd41, .inl ⟨eP_isAg, _, Try.underlying41⟩⟩

set_option maxRecDepth 100000 in
theorem law_lifted (os : Os) (started : os.Started) (H : Type) (enc : TypeId × Value → H) :
    ReturnsInHanded {} Try.checked os 4 .any (Rows.fnExactSameProgSpec.pre6 enc Try.prog Try.f4 Rows.fnExactSameProgRow.domain false) (Rows.fnExactSameProgSpec.post enc Try.prog Try.f4 false true false false) := by
  refine lifted_true (C := Try.checked) Try.own started (by kernel_rfl) Try.func4 Try.laidOut rfl (t := 4) rfl Try.underlying4 (by decide +kernel) ?_
    (ChangeSpec.witness6 (enc := enc) (C := Try.checked) false ⟨#[], #[.agg #[.int .i64 0, .int .i64 0, .int .i64 0, .int .i64 0, .slice none 0 0, .slice none 0 0], .agg #[.int .i64 0, .int .i64 0, .int .i64 0, .int .i64 0, .slice none 0 0, .slice none 0 0]], []⟩ 8 (by kernel_rfl) (by kernel_rfl) (by kernel_rfl) (by kernel_rfl)) ?_
  · intro ds hd
    match ds, hd with
    | [a0, a1], _ => exact ⟨rfl, rfl, rfl⟩
  · intro W b args ds ps ho h
    obtain ⟨x0, x1, hr, _⟩ := args_two arg41 arg41 ho h
    exact ⟨_, af4 x0 x1, hr⟩

theorem law_holds : Rows.FnExactSameProgSaid :=
  OpenClaim.holds_of_wide 4 Try.f4 rfl rfl rfl rfl rfl rfl rfl ⟨rfl, rfl, rfl, rfl, rfl⟩ rfl rfl rfl rfl rfl (by kernel_rfl) Try.func4 (by kernel_rfl)
    (of_decide_eq_true (by kernel_rfl)) (by unfold Func.isWrapper; first | (rw [if_pos (by decide +kernel)]; kernel_rfl) | (rw [if_neg (by decide +kernel)]; exact ⟨rfl, rfl⟩))
    (fun os started H enc _ => law_lifted os started H enc)
#print axioms law_holds
end Go.Proofs.Ytmeajebpmefjcaa
