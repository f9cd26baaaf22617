/- Contracts of functions of the seat, proved over the engine. No condition. -/
import Derived.Test.YtjnghfepojipiaaAxX
set_option linter.unusedSimpArgs false
set_option linter.unusedVariables false
set_option linter.unnecessarySimpa false
namespace Go.Ax
set_option linter.unusedSimpArgs false
def eG (g : Int × Int) : D := .ag [eI g.1, eI g.2]
def isIn (n lo hi : Int) : Bool := decide (lo ≤ n) && decide (n ≤ hi)
def okG (g : Int × Int) : Bool := isIn g.1 0 3 && isIn g.2 0 4

def k_within : RC := (.seq (.reg false [⟨none, .mv 6 (.c (.sc (.bool false)))⟩]) ((.seq (.reg false [⟨none, .mv 7 (.t 1)⟩, ⟨none, .mv 8 (.t 0)⟩, ⟨none, .bin 9 .leq (.t 7) (.t 8)⟩, ⟨none, .mv 10 (.t 9)⟩, ⟨some (10, true), .mv 11 (.t 0)⟩, ⟨some (10, true), .mv 12 (.t 2)⟩, ⟨some (10, true), .bin 13 .leq (.t 11) (.t 12)⟩, ⟨none, .pick 14 (.t 10) (.t 13) (.c (.sc (.bool false)))⟩, ⟨none, .mv 6 (.t 14)⟩]) (.ret))))
def K_within (P : Program) (f : Nat) : Prop := ∀ (n lo hi : Int), AF P f [eI n, eI lo, eI hi] (.own (eB (isIn n lo hi)))
theorem a_within {P : Program} (hm : P.follows .mixedOrders = true) {g : Nat} (hr : resF P g = some (15, k_within, [.t 6])) : K_within P g := by
 intro n lo hi
 refine af_of_res hr hm rfl fun hb => ?_
 simp +contextual -implicitDefEqProofs only [k_within, isIn, go_sem, eI, eB, ↓reduceIte, Nat.reduceEqDiff, Nat.reduceAdd]

def k_l00In : RC := (.seq (.reg false [⟨none, .mv 6 (.c (.sc (.bool false)))⟩]) ((.seq (.reg false [⟨none, .mv 7 (.t 0)⟩, ⟨none, .mv 8 (.t 1)⟩, ⟨none, .bin 9 .geq (.t 7) (.t 8)⟩, ⟨none, .mv 10 (.t 9)⟩, ⟨some (10, true), .mv 11 (.t 0)⟩, ⟨some (10, true), .mv 12 (.t 2)⟩, ⟨some (10, true), .bin 13 .leq (.t 11) (.t 12)⟩, ⟨none, .pick 14 (.t 10) (.t 13) (.c (.sc (.bool false)))⟩, ⟨none, .mv 6 (.t 14)⟩]) (.ret))))
def K_l00In (P : Program) (f : Nat) : Prop := ∀ (n lo hi : Int), AF P f [eI n, eI lo, eI hi] (.own (eB (isIn n lo hi)))
theorem a_l00In {P : Program} (hm : P.follows .mixedOrders = true) {g : Nat} (hr : resF P g = some (15, k_l00In, [.t 6])) : K_l00In P g := by
 intro n lo hi
 refine af_of_res hr hm rfl fun hb => ?_
 simp +contextual -implicitDefEqProofs only [k_l00In, isIn, go_sem, eI, eB, ↓reduceIte, Nat.reduceEqDiff, Nat.reduceAdd]

def k_validSig (f1 : Nat) : RC := (.seq (.reg false [⟨none, .box 1 2 (.t 0)⟩, ⟨none, .mv 2 (.c (.sc (.bool false)))⟩]) ((.seq (.reg false [⟨none, .fa 3 0 (.t 1)⟩, ⟨none, .ld 4 false 1 (.t 3)⟩, ⟨none, .call (some 5) f1 [(.t 4), (.c (.sc (.int .i64 0))), (.c (.sc (.int .i64 3)))]⟩, ⟨none, .mv 6 (.t 5)⟩, ⟨some (6, true), .fa 7 1 (.t 1)⟩, ⟨some (6, true), .ld 8 false 1 (.t 7)⟩, ⟨some (6, true), .call (some 9) f1 [(.t 8), (.c (.sc (.int .i64 0))), (.c (.sc (.int .i64 4)))]⟩, ⟨none, .pick 10 (.t 6) (.t 9) (.c (.sc (.bool false)))⟩, ⟨none, .mv 2 (.t 10)⟩]) (.ret))))
def K_validSig (P : Program) (f : Nat) : Prop := ∀ (g : Int × Int), AF P f [eG g] (.own (eB (okG g)))
theorem a_validSig {P : Program} (hm : P.follows .mixedOrders = true) {g f1 : Nat} (hr : resF P g = some (11, k_validSig f1, [.t 2])) (hc1 : K_within P f1) : K_validSig P g := by
 intro g
 refine af_of_res hr hm rfl fun hb => ?_
 simp +contextual -implicitDefEqProofs only [k_validSig, eG, go_sem, eI, eB, ↓reduceIte, Nat.reduceEqDiff, Nat.reduceAdd, Nat.reduceLeDiff, Nat.reduceLT]
 refine callQ_self ?_ (hc1 g.1 0 3) ?_
 ·exact rfl
 cases h1 : isIn g.1 0 3 <;> simp +contextual -implicitDefEqProofs only [okG, h1, go_sem, eB, ↓reduceIte, Nat.reduceEqDiff, Nat.reduceAdd, Nat.reduceLeDiff, Nat.reduceLT]
 refine callQ_self ?_ (hc1 g.2 0 4) ?_
 ·exact rfl
 simp +contextual -implicitDefEqProofs only [go_sem, eB, ↓reduceIte, Nat.reduceEqDiff]

def k_l01Sig (f1 : Nat) : RC := (.seq (.reg false [⟨none, .box 1 2 (.t 0)⟩, ⟨none, .mv 2 (.c (.sc (.bool false)))⟩]) ((.seq (.reg false [⟨none, .fa 3 0 (.t 1)⟩, ⟨none, .ld 4 false 1 (.t 3)⟩, ⟨none, .call (some 5) f1 [(.t 4), (.c (.sc (.int .i64 0))), (.c (.sc (.int .i64 3)))]⟩, ⟨none, .mv 6 (.t 5)⟩, ⟨some (6, true), .fa 7 1 (.t 1)⟩, ⟨some (6, true), .ld 8 false 1 (.t 7)⟩, ⟨some (6, true), .call (some 9) f1 [(.t 8), (.c (.sc (.int .i64 0))), (.c (.sc (.int .i64 4)))]⟩, ⟨none, .pick 10 (.t 6) (.t 9) (.c (.sc (.bool false)))⟩, ⟨none, .mv 2 (.t 10)⟩]) (.ret))))
def K_l01Sig (P : Program) (f : Nat) : Prop := ∀ (g : Int × Int), AF P f [eG g] (.own (eB (okG g)))
theorem a_l01Sig {P : Program} (hm : P.follows .mixedOrders = true) {g f1 : Nat} (hr : resF P g = some (11, k_l01Sig f1, [.t 2])) (hc1 : K_l00In P f1) : K_l01Sig P g := by
 intro g
 refine af_of_res hr hm rfl fun hb => ?_
 simp +contextual -implicitDefEqProofs only [k_l01Sig, eG, go_sem, eI, eB, ↓reduceIte, Nat.reduceEqDiff, Nat.reduceAdd, Nat.reduceLeDiff, Nat.reduceLT]
 refine callQ_self ?_ (hc1 g.1 0 3) ?_
 ·exact rfl
 cases h1 : isIn g.1 0 3 <;> simp +contextual -implicitDefEqProofs only [okG, h1, go_sem, eB, ↓reduceIte, Nat.reduceEqDiff, Nat.reduceAdd, Nat.reduceLeDiff, Nat.reduceLT]
 refine callQ_self ?_ (hc1 g.2 0 4) ?_
 ·exact rfl
 simp +contextual -implicitDefEqProofs only [go_sem, eB, ↓reduceIte, Nat.reduceEqDiff]

section
variable {P : Program} (hm : P.follows .mixedOrders = true)
include hm
end

end Go.Ax
