/- Contracts of functions of the seat, proved over the engine. No condition. -/
import Derived.Test.YtmeajebpmefjcaaV1
namespace Go.Ax
open Go.Proofs
set_option linter.unusedSimpArgs false
def eG (g : Int × Int) : D := .ag [eI g.1, eI g.2]
abbrev W := SL Int × SL (SL Int)
def eW (w : W) : D := .ag [eS 1 eI w.1, eS 1 (eS 1 eI) w.2]
def isIn (n lo hi : Int) : Bool := decide (lo ≤ n) && decide (n ≤ hi)
theorem encI : Enc eI 1 false := ⟨by omega, fun _ => rfl, fun _ => rfl, fun _ => rfl⟩
theorem encS {α : Type} (f : α → D) (sz : Nat) : Enc (eS sz f) 1 false := ⟨by omega, fun _ => rfl, fun _ => rfl, fun _ => rfl⟩
theorem noI (n : Int) : (eI n).noPtr = true := rfl
theorem pow_small {n : Int} (h1 : 0 ≤ n) (h2 : n ≤ 3) : IntKind.i64.wrap (1 * 2 ^ min n.toNat 64) = 2 ^ n.toNat := by
  have : n = 0 ∨ n = 1 ∨ n = 2 ∨ n = 3 := by omega
  rcases this with rfl | rfl | rfl | rfl <;> decide
theorem af56 (n lo hi : Int) : AF Try.prog 56 [eI n, eI lo, eI hi] (.own (eB (isIn n lo hi))) := by
  refine af_of_res res56 mixed rfl fun _ => ?_
  simp +contextual -implicitDefEqProofs only [rc56, isIn, go_sem, eI, eB, ↓reduceIte, Nat.reduceEqDiff, Nat.reduceAdd, Nat.reduceLeDiff, Nat.reduceMul, Nat.reduceBEq, Nat.reduceBneDiff, Nat.reduceLT, Nat.reduceSub, decide_true, decide_false, and_self, true_and, and_true, false_and, and_false, not_true_eq_false, not_false_eq_true, false_implies, true_implies, implies_true, ge_iff_le]
theorem af58 (n lo hi : Int) : AF Try.prog 58 [eI n, eI lo, eI hi] (.own (eB (isIn n lo hi))) := by
  refine af_of_res res58 mixed rfl fun _ => ?_
  simp +contextual -implicitDefEqProofs only [rc58, isIn, go_sem, eI, eB, ↓reduceIte, Nat.reduceEqDiff, Nat.reduceAdd, Nat.reduceLeDiff, Nat.reduceMul, Nat.reduceBEq, Nat.reduceBneDiff, Nat.reduceLT, Nat.reduceSub, decide_true, decide_false, and_self, true_and, and_true, false_and, and_false, not_true_eq_false, not_false_eq_true, false_implies, true_implies, implies_true, ge_iff_le]
def okG (g : Int × Int) : Bool := isIn g.1 0 3 && isIn g.2 0 4
theorem af55 (g : Int × Int) : AF Try.prog 55 [eG g] (.own (eB (okG g))) := by
  refine af_of_res res55 mixed rfl fun _ => ?_
  simp +contextual -implicitDefEqProofs only [rc55, eG, go_sem, eI, eB, ↓reduceIte, Nat.reduceEqDiff, Nat.reduceAdd, Nat.reduceLeDiff, Nat.reduceMul, Nat.reduceBEq, Nat.reduceBneDiff, Nat.reduceLT, Nat.reduceSub, decide_true, decide_false, and_self, true_and, and_true, false_and, and_false, not_true_eq_false, not_false_eq_true, false_implies, true_implies, implies_true, ge_iff_le]
  refine callQ_self ?_ (af56 g.1 0 3) ?_
  · exact rfl
  cases h1 : isIn g.1 0 3 <;> simp +contextual -implicitDefEqProofs only [okG, h1, go_sem, eI, eB, ↓reduceIte, Nat.reduceEqDiff, Nat.reduceAdd, Nat.reduceLeDiff, Nat.reduceMul, Nat.reduceBEq, Nat.reduceBneDiff, Nat.reduceLT, Nat.reduceSub, decide_true, decide_false, and_self, true_and, and_true, false_and, and_false, not_true_eq_false, not_false_eq_true, false_implies, true_implies, implies_true, ge_iff_le]
  refine callQ_self ?_ (af56 g.2 0 4) ?_
  · exact rfl
  simp +contextual -implicitDefEqProofs only [go_sem, eI, eB, ↓reduceIte, Nat.reduceEqDiff, Nat.reduceAdd, Nat.reduceLeDiff, Nat.reduceMul, Nat.reduceBEq, Nat.reduceBneDiff, Nat.reduceLT, Nat.reduceSub, decide_true, decide_false, and_self, true_and, and_true, false_and, and_false, not_true_eq_false, not_false_eq_true, false_implies, true_implies, implies_true, ge_iff_le]
theorem af30 (g : Int × Int) : AF Try.prog 30 [eG g] (.own (eB (okG g))) := by
  refine af_of_res res30 mixed rfl fun _ => ?_
  simp +contextual -implicitDefEqProofs only [rc30, eG, go_sem, eI, eB, ↓reduceIte, Nat.reduceEqDiff, Nat.reduceAdd, Nat.reduceLeDiff, Nat.reduceMul, Nat.reduceBEq, Nat.reduceBneDiff, Nat.reduceLT, Nat.reduceSub, decide_true, decide_false, and_self, true_and, and_true, false_and, and_false, not_true_eq_false, not_false_eq_true, false_implies, true_implies, implies_true, ge_iff_le]
  refine callQ_self ?_ (af58 g.1 0 3) ?_
  · exact rfl
  cases h1 : isIn g.1 0 3 <;> simp +contextual -implicitDefEqProofs only [okG, h1, go_sem, eI, eB, ↓reduceIte, Nat.reduceEqDiff, Nat.reduceAdd, Nat.reduceLeDiff, Nat.reduceMul, Nat.reduceBEq, Nat.reduceBneDiff, Nat.reduceLT, Nat.reduceSub, decide_true, decide_false, and_self, true_and, and_true, false_and, and_false, not_true_eq_false, not_false_eq_true, false_implies, true_implies, implies_true, ge_iff_le]
  refine callQ_self ?_ (af58 g.2 0 4) ?_
  · exact rfl
  simp +contextual -implicitDefEqProofs only [go_sem, eI, eB, ↓reduceIte, Nat.reduceEqDiff, Nat.reduceAdd, Nat.reduceLeDiff, Nat.reduceMul, Nat.reduceBEq, Nat.reduceBneDiff, Nat.reduceLT, Nat.reduceSub, decide_true, decide_false, and_self, true_and, and_true, false_and, and_false, not_true_eq_false, not_false_eq_true, false_implies, true_implies, implies_true, ge_iff_le]
theorem af74 (g : Int × Int) (h : 0 ≤ g.1 ∧ g.1 ≤ 3) : AF Try.prog 74 [eG g] (.own (eI (2 ^ g.1.toNat))) := by
  refine af_of_res res74 mixed rfl fun _ => ?_
  simp +contextual -implicitDefEqProofs only [rc74, eG, go_sem, eI, eB, ↓reduceIte, Nat.reduceEqDiff, Nat.reduceAdd, Nat.reduceLeDiff, Nat.reduceMul, Nat.reduceBEq, Nat.reduceBneDiff, Nat.reduceLT, Nat.reduceSub, decide_true, decide_false, and_self, true_and, and_true, false_and, and_false, not_true_eq_false, not_false_eq_true, false_implies, true_implies, implies_true, ge_iff_le]
  refine D.Le.sc_eq ?_
  rw [show IntKind.u64.wrap g.1 = g.1 by simp [IntKind.wrap, IntKind.bits, IntKind.signed]; omega, pow_small h.1 h.2]
theorem af60 (g : Int × Int) (h : 0 ≤ g.1 ∧ g.1 ≤ 3) : AF Try.prog 60 [eG g] (.own (eI (2 ^ g.1.toNat))) := by
  refine af_of_res res60 mixed rfl fun _ => ?_
  simp +contextual -implicitDefEqProofs only [rc60, eG, go_sem, eI, eB, ↓reduceIte, Nat.reduceEqDiff, Nat.reduceAdd, Nat.reduceLeDiff, Nat.reduceMul, Nat.reduceBEq, Nat.reduceBneDiff, Nat.reduceLT, Nat.reduceSub, decide_true, decide_false, and_self, true_and, and_true, false_and, and_false, not_true_eq_false, not_false_eq_true, false_implies, true_implies, implies_true, ge_iff_le]
  exact ⟨h.1, D.Le.sc_eq (by rw [pow_small h.1 h.2])⟩
theorem pow_le {n : Int} (h1 : 0 ≤ n) (h2 : n ≤ 3) : 1 ≤ (2 : Int) ^ n.toNat ∧ (2 : Int) ^ n.toNat ≤ 8 := by
  have : n = 0 ∨ n = 1 ∨ n = 2 ∨ n = 3 := by omega
  rcases this with rfl | rfl | rfl | rfl <;> decide
theorem af57 (g : Int × Int) (n : Int) (h : 0 ≤ g.1 ∧ g.1 ≤ 3) : AF Try.prog 57 [eG g, eI n] (.own (eB (isIn n 0 (2 ^ g.1.toNat - 1)))) := by
  refine af_of_res res57 mixed rfl fun _ => ?_
  simp +contextual -implicitDefEqProofs only [rc57, eG, go_sem, eI, eB, ↓reduceIte, Nat.reduceEqDiff, Nat.reduceAdd, Nat.reduceLeDiff, Nat.reduceMul, Nat.reduceBEq, Nat.reduceBneDiff, Nat.reduceLT, Nat.reduceSub, decide_true, decide_false, and_self, true_and, and_true, false_and, and_false, not_true_eq_false, not_false_eq_true, false_implies, true_implies, implies_true, ge_iff_le]
  refine callQ_self ?_ (af74 g h) ?_
  · exact rfl
  simp +contextual -implicitDefEqProofs only [go_sem, eI, eB, ↓reduceIte, Nat.reduceEqDiff, Nat.reduceAdd, Nat.reduceLeDiff, Nat.reduceMul, Nat.reduceBEq, Nat.reduceBneDiff, Nat.reduceLT, Nat.reduceSub, decide_true, decide_false, and_self, true_and, and_true, false_and, and_false, not_true_eq_false, not_false_eq_true, false_implies, true_implies, implies_true, ge_iff_le]
  have hp := pow_le h.1 h.2
  rw [wrap_i64 (by omega) (by omega)]
  refine callQ_self ?_ (af56 n 0 (2 ^ g.1.toNat - 1)) ?_
  · exact rfl
  simp +contextual -implicitDefEqProofs only [go_sem, eI, eB, ↓reduceIte, Nat.reduceEqDiff, Nat.reduceAdd, Nat.reduceLeDiff, Nat.reduceMul, Nat.reduceBEq, Nat.reduceBneDiff, Nat.reduceLT, Nat.reduceSub, decide_true, decide_false, and_self, true_and, and_true, false_and, and_false, not_true_eq_false, not_false_eq_true, false_implies, true_implies, implies_true, ge_iff_le]
theorem af9 (g : Int × Int) : AF Try.prog 9 [eG g] (.own (eG g)) := by
  refine af_of_res res9 mixed rfl fun _ => ?_
  simp +contextual -implicitDefEqProofs only [rc9, eG, go_sem, eI, eB, ↓reduceIte, Nat.reduceEqDiff, Nat.reduceAdd, Nat.reduceLeDiff, Nat.reduceMul, Nat.reduceBEq, Nat.reduceBneDiff, Nat.reduceLT, Nat.reduceSub, decide_true, decide_false, and_self, true_and, and_true, false_and, and_false, not_true_eq_false, not_false_eq_true, false_implies, true_implies, implies_true, ge_iff_le]
theorem af10 (w : W) (h1 : w.1.2.length ≤ 1048576) (h2 : w.2.2.length ≤ 1048576) (h3 : ∀ r ∈ w.2.2, r.2.length ≤ 1048576) : AF Try.prog 10 [eW w] (.own (eW ((some false, w.1.2), (some false, w.2.2.map fun r => (some false, r.2))))) := by
  refine af_of_res res10 mixed rfl fun _ => ?_
  simp +contextual -implicitDefEqProofs only [rc10, eW, eS, go_sem, eI, eB, ↓reduceIte, Nat.reduceEqDiff, Nat.reduceAdd, Nat.reduceLeDiff, Nat.reduceMul, Nat.reduceBEq, Nat.reduceBneDiff, Nat.reduceLT, Nat.reduceSub, decide_true, decide_false, and_self, true_and, and_true, false_and, and_false, not_true_eq_false, not_false_eq_true, false_implies, true_implies, implies_true, ge_iff_le]
  refine callQ_self ?_ (af_toS mixed encI noI ⟨rfl, rfl, rfl⟩ res28 w.1 (by omega)) ?_
  · exact rfl
  simp +contextual -implicitDefEqProofs only [eS, go_sem, eI, eB, ↓reduceIte, Nat.reduceEqDiff, Nat.reduceAdd, Nat.reduceLeDiff, Nat.reduceMul, Nat.reduceBEq, Nat.reduceBneDiff, Nat.reduceLT, Nat.reduceSub, decide_true, decide_false, and_self, true_and, and_true, false_and, and_false, not_true_eq_false, not_false_eq_true, false_implies, true_implies, implies_true, ge_iff_le]
  refine callQ_self ?_ (af_toC (tA := fun r : SL Int => ((some false, r.2) : SL Int)) mixed (encS eI 1) (encS eI 1) ⟨rfl, rfl, rfl⟩ res29 w.2 (by omega) (fun r hr => af_toS mixed encI noI ⟨rfl, rfl, rfl⟩ res28 r (by have := h3 r hr; omega))) ?_
  · exact rfl
  simp +contextual -implicitDefEqProofs only [eS, go_sem, eI, eB, ↓reduceIte, Nat.reduceEqDiff, Nat.reduceAdd, Nat.reduceLeDiff, Nat.reduceMul, Nat.reduceBEq, Nat.reduceBneDiff, Nat.reduceLT, Nat.reduceSub, decide_true, decide_false, and_self, true_and, and_true, false_and, and_false, not_true_eq_false, not_false_eq_true, false_implies, true_implies, implies_true, ge_iff_le]
abbrev eqI : List Int → List Int → Bool := eqL (fun x y => x == y)
abbrev eqII : List (SL Int) → List (SL Int) → Bool := eqL (fun x y => eqI x.2 y.2)
def rowI (r : SL Int) (l : Int) : Int := cut (l - r.2.length)
def szW (w : W) (l : Int) : Int := if rowI w.1 l < 0 then -1 else szS rowI w.2 (rowI w.1 l)
theorem cut_ge (x : Int) : -1 ≤ cut x := by unfold cut; split <;> omega
theorem cut_le {x b : Int} (h : x ≤ b) (hb : -1 ≤ b) : cut x ≤ b := by unfold cut; split <;> omega
theorem szL_in {α : Type} {sA : α → Int → Int} (h : ∀ x l, 0 ≤ l → l ≤ 1048576 → -1 ≤ sA x l ∧ sA x l ≤ 1048576) : ∀ {r : List α} {l : Int}, -1 ≤ l → l ≤ 1048576 → -1 ≤ szL sA r l ∧ szL sA r l ≤ 1048576
  | [], l, h1, h2 => ⟨h1, h2⟩
  | x :: r, l, h1, h2 => by
    simp only [szL]
    split
    · exact ⟨h1, h2⟩
    · exact szL_in h (h x l (by omega) h2).1 (h x l (by omega) h2).2
theorem af32 (a b : SL Int) : AF Try.prog 32 [eS 1 eI a, eS 1 eI b] (.own (eB (eqI a.2 b.2))) := af_eqS mixed res32 a b
theorem af33 (a b : SL (SL Int)) : AF Try.prog 33 [eS 1 (eS 1 eI) a, eS 1 (eS 1 eI) b] (.own (eB (eqII a.2 b.2))) := af_eqC mixed (encS eI 1) res33 (fun x y => eqI x.2 y.2) a b fun x _ y _ => af32 x y
theorem af25 (s : SL Int) (l : Int) (h1 : -1 ≤ l) (h2 : l ≤ 1048576) : AF Try.prog 25 [eS 1 eI s, eI l] (.own (eI (rowI s l))) := by
  have := af_szP mixed res25 (sz := 1) s.1 (s.2.map eI) l h1 h2
  rw [List.length_map] at this
  exact this
theorem rowI_in (r : SL Int) (l : Int) (h1 : 0 ≤ l) (h2 : l ≤ 1048576) : -1 ≤ rowI r l ∧ rowI r l ≤ 1048576 := ⟨cut_ge _, cut_le (by omega) (by omega)⟩
theorem af26 (s : SL (SL Int)) (l : Int) (h1 : -1 ≤ l) (h2 : l ≤ 1048576) : AF Try.prog 26 [eS 1 (eS 1 eI) s, eI l] (.own (eI (szS rowI s l))) :=
  af_szC mixed (encS eI 1) res26 rowI s (fun x _ l h1 h2 => ⟨af25 x l (by omega) h2, rowI_in x l h1 h2⟩) l h1 h2
theorem af12 (a b : W) : AF Try.prog 12 [eW a, eW b] (.own (eB (eqI a.1.2 b.1.2 && eqII a.2.2 b.2.2))) := by
  refine af_of_res res12 mixed rfl fun _ => ?_
  simp +contextual -implicitDefEqProofs only [rc12, eW, eS, go_sem, eI, eB, ↓reduceIte, Nat.reduceEqDiff, Nat.reduceAdd, Nat.reduceLeDiff, Nat.reduceMul, Nat.reduceBEq, Nat.reduceBneDiff, Nat.reduceLT, Nat.reduceSub, decide_true, decide_false, and_self, true_and, and_true, false_and, and_false, not_true_eq_false, not_false_eq_true, false_implies, true_implies, implies_true, ge_iff_le]
  refine callQ_self ?_ (af32 a.1 b.1) ?_
  · exact rfl
  simp +contextual -implicitDefEqProofs only [eS, go_sem, eI, eB, ↓reduceIte, Nat.reduceEqDiff, Nat.reduceAdd, Nat.reduceLeDiff, Nat.reduceMul, Nat.reduceBEq, Nat.reduceBneDiff, Nat.reduceLT, Nat.reduceSub, decide_true, decide_false, and_self, true_and, and_true, false_and, and_false, not_true_eq_false, not_false_eq_true, false_implies, true_implies, implies_true, ge_iff_le]
  cases h1 : eqI a.1.2 b.1.2
  · simp +contextual -implicitDefEqProofs only [go_sem, eI, eB, ↓reduceIte, Nat.reduceEqDiff, Nat.reduceAdd, Nat.reduceLeDiff, Nat.reduceMul, Nat.reduceBEq, Nat.reduceBneDiff, Nat.reduceLT, Nat.reduceSub, decide_true, decide_false, and_self, true_and, and_true, false_and, and_false, not_true_eq_false, not_false_eq_true, false_implies, true_implies, implies_true, ge_iff_le]
  simp +contextual -implicitDefEqProofs only [go_sem, eI, eB, ↓reduceIte, Nat.reduceEqDiff, Nat.reduceAdd, Nat.reduceLeDiff, Nat.reduceMul, Nat.reduceBEq, Nat.reduceBneDiff, Nat.reduceLT, Nat.reduceSub, decide_true, decide_false, and_self, true_and, and_true, false_and, and_false, not_true_eq_false, not_false_eq_true, false_implies, true_implies, implies_true, ge_iff_le, Bool.not_true, Bool.not_false]
  refine callQ_self ?_ (af33 a.2 b.2) ?_
  · exact rfl
  simp +contextual -implicitDefEqProofs only [eS, go_sem, eI, eB, ↓reduceIte, Nat.reduceEqDiff, Nat.reduceAdd, Nat.reduceLeDiff, Nat.reduceMul, Nat.reduceBEq, Nat.reduceBneDiff, Nat.reduceLT, Nat.reduceSub, decide_true, decide_false, and_self, true_and, and_true, false_and, and_false, not_true_eq_false, not_false_eq_true, false_implies, true_implies, implies_true, ge_iff_le]
  cases h2 : eqII a.2.2 b.2.2 <;> simp +contextual -implicitDefEqProofs only [go_sem, eI, eB, ↓reduceIte, Nat.reduceEqDiff, Nat.reduceAdd, Nat.reduceLeDiff, Nat.reduceMul, Nat.reduceBEq, Nat.reduceBneDiff, Nat.reduceLT, Nat.reduceSub, decide_true, decide_false, and_self, true_and, and_true, false_and, and_false, not_true_eq_false, not_false_eq_true, false_implies, true_implies, implies_true, ge_iff_le, Bool.not_true, Bool.not_false]
theorem af7 (w : W) (l : Int) (h1 : 0 ≤ l) (h2 : l ≤ 1048576) : AF Try.prog 7 [eW w, eI l] (.own (eI (szW w l))) := by
  refine af_of_res res7 mixed rfl fun _ => ?_
  simp +contextual -implicitDefEqProofs only [rc7, eW, eS, go_sem, eI, eB, ↓reduceIte, Nat.reduceEqDiff, Nat.reduceAdd, Nat.reduceLeDiff, Nat.reduceMul, Nat.reduceBEq, Nat.reduceBneDiff, Nat.reduceLT, Nat.reduceSub, decide_true, decide_false, and_self, true_and, and_true, false_and, and_false, not_true_eq_false, not_false_eq_true, false_implies, true_implies, implies_true, ge_iff_le]
  refine callQ_self ?_ (af25 w.1 l (by omega) h2) ?_
  · exact rfl
  simp +contextual -implicitDefEqProofs only [eS, go_sem, eI, eB, ↓reduceIte, Nat.reduceEqDiff, Nat.reduceAdd, Nat.reduceLeDiff, Nat.reduceMul, Nat.reduceBEq, Nat.reduceBneDiff, Nat.reduceLT, Nat.reduceSub, decide_true, decide_false, and_self, true_and, and_true, false_and, and_false, not_true_eq_false, not_false_eq_true, false_implies, true_implies, implies_true, ge_iff_le]
  have hr := rowI_in w.1 l h1 h2
  refine ⟨fun h => D.Le.sc_eq (by simp only [szW]; rw [if_pos h]), fun h => ?_⟩
  refine callQ_self ?_ (af26 w.2 (rowI w.1 l) (by omega) hr.2) ?_
  · exact rfl
  simp +contextual -implicitDefEqProofs only [eS, go_sem, eI, eB, ↓reduceIte, Nat.reduceEqDiff, Nat.reduceAdd, Nat.reduceLeDiff, Nat.reduceMul, Nat.reduceBEq, Nat.reduceBneDiff, Nat.reduceLT, Nat.reduceSub, decide_true, decide_false, and_self, true_and, and_true, false_and, and_false, not_true_eq_false, not_false_eq_true, false_implies, true_implies, implies_true, ge_iff_le]
  have hi := szL_in rowI_in (r := w.2.2) (l := cut (rowI w.1 l - w.2.2.length)) (cut_ge _) (cut_le (by omega) (by omega))
  have e : szW w l = szS rowI w.2 (rowI w.1 l) := by simp only [szW]; rw [if_neg h]
  rw [e]
  refine ⟨fun h => D.Le.sc_eq ?_, fun h => D.Le.refl _⟩
  unfold szS at h ⊢
  congr 1
  omega
theorem af59 (s : SL Int) (n : Int) (h1 : 0 ≤ n) (h2 : n ≤ 1048576) : AF Try.prog 59 [eS 1 eI s, eI n] (.own (eB (s.2.all fun x => isIn x 0 (n - 1)))) := by
  refine af_of_res res59 mixed rfl fun hb => ?_
  simp +contextual -implicitDefEqProofs only [rc59, eS, go_sem, eI, eB, ↓reduceIte, Nat.reduceEqDiff, Nat.reduceAdd, Nat.reduceLeDiff, Nat.reduceMul, Nat.reduceBEq, Nat.reduceBneDiff, Nat.reduceLT, Nat.reduceSub, decide_true, decide_false, and_self, true_and, and_true, false_and, and_false, not_true_eq_false, not_false_eq_true, false_implies, true_implies, implies_true, ge_iff_le]
  have hl := len_of_bd hb
  unfold maxEl at hl
  simp only [List.length_map] at hl
  refine vc_loop (α := Nat) (fun i => ⟨19, [(1, .im none (.sc (.int .i64 n))), (7, .im none (.ls s.1 1 (s.2.map eI))), (8, .im none (.sc (.int .i64 s.2.length))), (9, .im none (.sc (.int .i64 i)))], []⟩)
    (fun i => i ≤ s.2.length ∧ (s.2.drop i).all (fun x => isIn x 0 (n - 1)) = s.2.all fun x => isIn x 0 (n - 1)) (fun i => s.2.length - i) 0
    (Ent.env (by simp only [subEnv, go_sem, ↓reduceIte, Nat.reduceEqDiff, List.length_map]; simp)) ⟨by simp, by simp⟩ ?_
  rintro i ⟨j1, j4⟩
  by_cases hi : i < s.2.length
  · have e1 := at_map (f := eI) hi
    simp +contextual -implicitDefEqProofs only [e1, hi, Int.ofNat_lt, List.length_map, Int.natCast_nonneg, go_sem, eI, eB, ↓reduceIte, Nat.reduceEqDiff, Nat.reduceAdd, Nat.reduceLeDiff, Nat.reduceMul, Nat.reduceBEq, Nat.reduceBneDiff, Nat.reduceLT, Nat.reduceSub, decide_true, decide_false, and_self, true_and, and_true, false_and, and_false, not_true_eq_false, not_false_eq_true, false_implies, true_implies, implies_true, ge_iff_le]
    rw [wrap_i64 (by omega) (by omega)]
    refine callQ_self ?_ (af58 s.2[i] 0 (n - 1)) ?_
    · exact rfl
    simp +contextual -implicitDefEqProofs only [go_sem, eI, eB, ↓reduceIte, Nat.reduceEqDiff, Nat.reduceAdd, Nat.reduceLeDiff, Nat.reduceMul, Nat.reduceBEq, Nat.reduceBneDiff, Nat.reduceLT, Nat.reduceSub, decide_true, decide_false, and_self, true_and, and_true, false_and, and_false, not_true_eq_false, not_false_eq_true, false_implies, true_implies, implies_true, ge_iff_le]
    rw [List.drop_eq_getElem_cons hi, List.all_cons] at j4
    cases h : isIn s.2[i] 0 (n - 1)
    · rw [h] at j4
      simp +contextual -implicitDefEqProofs only [go_sem, eI, eB, ↓reduceIte, Nat.reduceEqDiff, Nat.reduceAdd, Nat.reduceLeDiff, Nat.reduceMul, Nat.reduceBEq, Nat.reduceBneDiff, Nat.reduceLT, Nat.reduceSub, decide_true, decide_false, and_self, true_and, and_true, false_and, and_false, not_true_eq_false, not_false_eq_true, false_implies, true_implies, implies_true, ge_iff_le, Bool.not_false]
      exact D.Le.sc_eq (by rw [← j4]; rfl)
    · rw [h] at j4
      simp +contextual -implicitDefEqProofs only [go_sem, eI, eB, ↓reduceIte, Nat.reduceEqDiff, Nat.reduceAdd, Nat.reduceLeDiff, Nat.reduceMul, Nat.reduceBEq, Nat.reduceBneDiff, Nat.reduceLT, Nat.reduceSub, decide_true, decide_false, and_self, true_and, and_true, false_and, and_false, not_true_eq_false, not_false_eq_true, false_implies, true_implies, implies_true, ge_iff_le, Bool.not_true]
      rw [wrap_i64 (by omega) (by omega)]
      exact ⟨i + 1, ⟨by omega, by rw [← j4]; rfl⟩, by omega, Ent.env (by simp only [subEnv, go_sem, ↓reduceIte, Nat.reduceEqDiff]; simp)⟩
  · simp +contextual -implicitDefEqProofs only [hi, Int.ofNat_lt, List.length_map, go_sem, eI, eB, ↓reduceIte, Nat.reduceEqDiff, Nat.reduceAdd, Nat.reduceLeDiff, Nat.reduceMul, Nat.reduceBEq, Nat.reduceBneDiff, Nat.reduceLT, Nat.reduceSub, decide_true, decide_false, and_self, true_and, and_true, false_and, and_false, not_true_eq_false, not_false_eq_true, false_implies, true_implies, implies_true, ge_iff_le]
    refine D.Le.sc_eq ?_
    rw [← j4, List.drop_eq_nil_of_le (by omega)]
    rfl
end Go.Ax
