/- Contracts of functions of the seat, proved over the engine. No condition. -/
import Derived.Test.YtjnghfepojipiaaX13
import Derived.Test.YtjnghfepojipiaaX21
import Derived.Test.YtjnghfepojipiaaX46
set_option linter.unusedSimpArgs false
set_option linter.unusedVariables false
set_option linter.unnecessarySimpa false
namespace Go.Ax
set_option linter.unusedSimpArgs false
set_option maxRecDepth 20000
set_option maxHeartbeats 4000000

def k_l02One : RC := (.seq (.reg false [⟨none, .zer 0 3 (.ag [(.sc (.int .i64 0)), (.sc (.int .i64 0)), (.ls (some true) 3 [])])⟩]) ((.seq (.reg false [⟨none, .bld 1 (.ag [(.sc (.int .i64 0)), (.sc (.int .i64 0)), (.ls (some true) 3 [])]) [(0, 1, (.c (.sc (.int .i64 2))))]⟩, ⟨none, .st 3 (.t 0) (.t 1)⟩]) (.ret))))
def K_l02One (P : Program) (fno : Nat) : Prop := ∀ (_u : Unit), AF P fno [] (.own (eE (.mk 2 0 (some true) [])))
theorem a_l02One {P : Program} (hm : P.follows .mixedOrders = true) {g : Nat} (hr : resF P g = some (2, k_l02One, [.c 0 3 true])) : K_l02One P g := by
  intro _u
  refine af_of_res hr hm rfl fun hb => ?_
  simp +contextual -implicitDefEqProofs only [k_l02One, eE_mk, List.map_nil, D.put, D.cells, D.size, D.sizeL, D.isAg, modeOf, noPtrs, List.length_map, eI, eB, eG, D.sub, Int.cast_ofNat_Int, Int.reduceLT, Int.reduceLE, Int.le_refl, Int.reduceBEq, Int.reduceEq, beq_self_eq_true, Int.reduceToNat, bne, Bool.not_true, Bool.not_false, Bool.true_and, Bool.false_and, Bool.and_true, Bool.and_false, Bool.true_or, Bool.false_or, Bool.or_true, Bool.or_false, go_sem, ↓reduceIte, Nat.reduceEqDiff, Nat.reduceAdd, Nat.reduceLeDiff, Nat.reduceMul, Nat.reduceBEq, Nat.reduceBneDiff, Nat.reduceLT, Nat.reduceSub, Bool.false_eq_true, List.cons_append, List.nil_append, Int.ofNat_lt, Int.natCast_nonneg]
  try exact D.Le.refl _

theorem atA0 {a : D} {l : List D} : D.at (a :: l) 0 = a := rfl
end Go.Ax
