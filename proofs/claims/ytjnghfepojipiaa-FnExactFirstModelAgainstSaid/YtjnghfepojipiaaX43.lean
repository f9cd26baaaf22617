/- Contracts of functions of the seat, proved over the engine. No condition. -/
import Derived.Test.YtjnghfepojipiaaX42
import Derived.Test.YtjnghfepojipiaaX10
import Derived.Test.YtjnghfepojipiaaEnI
set_option linter.unusedSimpArgs false
set_option linter.unusedVariables false
set_option linter.unnecessarySimpa false
namespace Go.Ax
set_option linter.unusedSimpArgs false
set_option maxRecDepth 20000
set_option maxHeartbeats 4000000
abbrev qRow (x y : SL Bool) : Bool := eqL (fun x y => x == y) x.2 y.2
def eqT (n : Nat) (A B : Rel) : Bool := eqL qRow (rTab n A).2 (rTab n B).2

def k_l05SameRows (f1 : Nat) : RC := (.seq (.reg false [⟨none, .mv 4 (.c (.sc (.bool false)))⟩]) ((.seq ((.seq (.reg false [⟨none, .mv 6 (.t 0)⟩, ⟨none, .len 7 (.t 6)⟩, ⟨none, .mv 8 (.t 1)⟩, ⟨none, .len 9 (.t 8)⟩, ⟨none, .bin 10 .neq (.t 7) (.t 9)⟩]) (.cond (.t 10) ((.seq (.reg false [⟨none, .mv 4 (.c (.sc (.bool false)))⟩]) (.ret))) (.skip)))) ((.seq ((.seq (.reg false [⟨none, .mv 5 (.c (.sc (.int .i64 0)))⟩]) (.blk 0 (.loop ((.seq ((.seq (.reg false [⟨none, .mv 11 (.t 5)⟩, ⟨none, .mv 12 (.t 0)⟩, ⟨none, .len 13 (.t 12)⟩, ⟨none, .bin 14 .lss (.t 11) (.t 13)⟩]) (.cond (.t 14) (.skip) (.exit 0)))) ((.seq (.blk 1 ((.seq (.reg true [⟨none, .mv 17 (.t 0)⟩, ⟨none, .mv 18 (.t 5)⟩, ⟨none, .ia 19 1 (.t 17) (.t 18)⟩, ⟨none, .ld 20 false 1 (.t 19)⟩, ⟨none, .mv 21 (.t 1)⟩, ⟨none, .mv 22 (.t 5)⟩, ⟨none, .ia 23 1 (.t 21) (.t 22)⟩, ⟨none, .ld 24 false 1 (.t 23)⟩, ⟨none, .call (some 25) f1 [(.t 20), (.t 24)]⟩, ⟨none, .un 26 .not (.t 25)⟩]) (.cond (.t 26) ((.seq (.reg false [⟨none, .mv 4 (.c (.sc (.bool false)))⟩]) (.ret))) (.skip))))) (.reg false [⟨none, .mv 15 (.t 5)⟩, ⟨none, .bin 16 .add (.t 15) (.c (.sc (.int .i64 1)))⟩, ⟨none, .mv 5 (.t 16)⟩]))))))))) ((.seq (.reg false [⟨none, .mv 4 (.c (.sc (.bool true)))⟩]) (.ret))))))))
def K_l05SameRows (P : Program) (fno : Nat) : Prop := ∀ (a b : SL (SL Bool)), AF P fno [eS 1 (eS 1 eB) a, eS 1 (eS 1 eB) b] (.own (eB (eqL qRow a.2 b.2)))
theorem a_l05SameRows {P : Program} (hm : P.follows .mixedOrders = true) {g f1 : Nat} (hr : resF P g = some (27, k_l05SameRows f1, [.t 4])) (hc1 : resF P f1 = some (26, cEqB, [.t 4])) : K_l05SameRows P g := by
 intro a b
 exact af_eqC hm (encS eB 1) (show resF P g = some (27, cEqC f1 1 false, [.t 4]) from hr) qRow a b fun x _ y _ => af_eqB hm hc1 x y

def k_sameRowsB (f1 f2 : Nat) : RC := (.seq (.reg false [⟨none, .mv 4 (.c (.sc (.bool false)))⟩]) ((.seq (.reg false [⟨none, .mv 5 (.t 0)⟩, ⟨none, .mv 6 (.t 1)⟩, ⟨none, .call (some 7) f1 [(.t 5), (.t 6), (.c (.sc (.func (.func f2) #[] #[])))]⟩, ⟨none, .mv 4 (.t 7)⟩]) (.ret))))
def K_sameRowsB (P : Program) (fno : Nat) : Prop := ∀ (a b : SL (SL Bool)), AF P fno [eS 1 (eS 1 eB) a, eS 1 (eS 1 eB) b] (.own (eB (eqL qRow a.2 b.2)))
theorem a_sameRowsB {P : Program} (hm : P.follows .mixedOrders = true) {g f1 f2 : Nat} (hr : resF P g = some (8, k_sameRowsB f1 f2, [.t 4])) (hc1 : resF P f1 = some (32, cEfS 1, [.t 6])) (hc2 : resF P f2 = some (26, cSeB, [.t 4])) : K_sameRowsB P g := by
 intro a b
 refine af_of_res hr hm rfl fun hb => ?_
 simp +contextual -implicitDefEqProofs only [k_sameRowsB, go_sem, eI, eB, ↓reduceIte, Nat.reduceEqDiff, Nat.reduceAdd, Nat.reduceLeDiff, Nat.reduceMul, Nat.reduceBEq, Nat.reduceBneDiff, Nat.reduceLT, Nat.reduceSub, Int.ofNat_lt, List.length_map, Int.natCast_nonneg]
 refine callQ_self (ds := [eS 1 (eS 1 eB) a, eS 1 (eS 1 eB) b, .sc (.func (.func f2) #[] #[])]) (by rfl) (af_efS hm (encS eB 1) hc1 qRow a b fun x _ y _ => af_seB hm hc2 x y) ?_
 simp +contextual -implicitDefEqProofs only [go_sem, eI, eB, ↓reduceIte, Nat.reduceEqDiff, Nat.reduceAdd, Nat.reduceLeDiff, Nat.reduceMul, Nat.reduceBEq, Nat.reduceBneDiff, Nat.reduceLT, Nat.reduceSub, Int.ofNat_lt, List.length_map, Int.natCast_nonneg]
theorem rows_D {P : Program} {f : Nat} (h : K_l05SameRows P f) {n : Nat} {A B : Rel} : AF P f [.ls (some false) 1 (rD n A), .ls (some false) 1 (rD n B)] (.own (eB (eqT n A B))) := by
 have := h (rTab n A) (rTab n B)
 rw [rD_eq, rD_eq] at this
 exact this
theorem rowsI_D {P : Program} {f : Nat} (h : K_sameRowsB P f) {n : Nat} {A B : Rel} : AF P f [.ls (some false) 1 (rD n A), .ls (some false) 1 (rD n B)] (.own (eB (eqT n A B))) := by
 have := h (rTab n A) (rTab n B)
 rw [rD_eq, rD_eq] at this
 exact this

theorem okQ_tree {g : Int × Int} {q : Eq2} (h : okQ g q = true) : treeE g q.1 = true ∧ treeE g q.2 = true := by
 simp only [okQ, okE, Bool.and_eq_true] at h
 exact ⟨h.2.1.2.2, h.2.2.2.2⟩
end Go.Ax
