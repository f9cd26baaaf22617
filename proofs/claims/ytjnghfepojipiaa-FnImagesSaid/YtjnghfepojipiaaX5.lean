/- Contracts of functions of the seat, proved over the engine. No condition. -/
import Derived.Test.YtjnghfepojipiaaX3
set_option linter.unusedSimpArgs false
set_option linter.unusedVariables false
set_option linter.unnecessarySimpa false
namespace Go.Ax
set_option linter.unusedSimpArgs false
set_option maxHeartbeats 4000000
abbrev Wd := SL Int × SL (SL Int)
def allIn (lo hi : Int) (l : List Int) : Bool := l.all fun x => isIn x lo hi
def rowOk (n : Int) (r : SL Int) : Bool := lenIs n r && allIn (-1) (n - 1) r.2
def atomsOf (g : Int × Int) : Int := 2 ^ g.1.toNat
def okW (g : Int × Int) (w : Wd) : Bool := isIn w.1.2.length 1 12 && (allIn 0 (atomsOf g - 1) w.1.2 && (lenIs g.2 w.2 && w.2.2.all (rowOk w.1.2.length)))
def k_inRange (f1 : Nat) : RC := (.seq (.reg false [⟨none, .mv 4 (.c (.sc (.bool false)))⟩]) ((.seq ((.seq (.reg false [⟨none, .mv 7 (.t 0)⟩, ⟨none, .len 8 (.t 7)⟩, ⟨none, .mv 9 (.c (.sc (.int .i64 0)))⟩]) (.blk 0 (.loop ((.seq (.reg false [⟨none, .bin 10 .lss (.t 9) (.t 8)⟩]) ((.seq (.cond (.t 10) (.skip) (.exit 0)) ((.seq (.blk 1 ((.seq (.reg false [⟨none, .ia 11 1 (.t 7) (.t 9)⟩, ⟨none, .ld 12 false 1 (.t 11)⟩, ⟨none, .mv 6 (.t 12)⟩]) ((.seq (.reg false [⟨none, .mv 13 (.t 6)⟩, ⟨none, .mv 14 (.t 1)⟩, ⟨none, .bin 15 .sub (.t 14) (.c (.sc (.int .i64 1)))⟩, ⟨none, .call (some 16) f1 [(.t 13), (.c (.sc (.int .i64 0))), (.t 15)]⟩, ⟨none, .un 17 .not (.t 16)⟩]) (.cond (.t 17) ((.seq (.reg false [⟨none, .mv 4 (.c (.sc (.bool false)))⟩]) (.ret))) (.skip))))))) (.reg false [⟨none, .bin 18 .add (.t 9) (.c (.sc (.int .i64 1)))⟩, ⟨none, .mv 9 (.t 18)⟩]))))))))))) ((.seq (.reg false [⟨none, .mv 4 (.c (.sc (.bool true)))⟩]) (.ret))))))
def K_inRange (P : Program) (f : Nat) : Prop := ∀ (s : SL Int) (n : Int) (h1 : 0 ≤ n) (h2 : n ≤ 1048576), AF P f [eS 1 eI s, eI n] (.own (eB (allIn 0 (n - 1) s.2)))
theorem a_inRange {P : Program} (hm : P.follows .mixedOrders = true) {g f1 : Nat} (hr : resF P g = some (19, k_inRange f1, [.t 4])) (hc1 : K_within P f1) : K_inRange P g := by
 intro s n h1 h2
 refine af_of_res hr hm rfl fun hb => ?_
 have hl := bd_ls hb.1
 simp only [List.length_map] at hl
 simp +contextual -implicitDefEqProofs only [k_inRange, eS, List.length_map, go_sem, eI, eB, ↓reduceIte, Nat.reduceEqDiff, Nat.reduceAdd]
 refine vc_on (α := Nat) [4, 6, 9, 10, 11, 12, 13, 14, 15, 16, 17, 18] (fun i => [(9, .im none (.sc (.int .i64 i)))]) (fun i => i ≤ s.2.length ∧ (s.2.take i).all ((fun x => isIn x 0 (n - 1))) = true) (fun i => s.2.length - i) 0 (by simp only [subEnv, go_sem, ↓reduceIte]; simp) ⟨Nat.zero_le _, rfl⟩ ?_
 rintro i ⟨j1, j2⟩
 by_cases hi : i < s.2.length
 ·have e1 := at_map (f := eI) hi
  simp +contextual -implicitDefEqProofs only [e1, hi, Int.ofNat_lt, List.length_map, Int.natCast_nonneg, go_sem, eI, ↓reduceIte, Nat.reduceEqDiff, Nat.reduceLeDiff, Nat.reduceLT]
  rw [wrap_i64 (by omega) (by omega)]
  refine callQ_self ?_ (hc1 s.2[i] 0 (n - 1)) ?_
  ·exact rfl
  cases hx : isIn s.2[i] 0 (n - 1)
  ·simp +contextual -implicitDefEqProofs only [Bool.not_false, go_sem, eB, ↓reduceIte]
   exact D.Le.sc_eq (by simp only [allIn]; rw [all_fail hi hx])
  ·simp +contextual -implicitDefEqProofs only [Bool.not_true, go_sem, eB, ↓reduceIte, Nat.reduceEqDiff]
   rw [wrap_i64 (by omega) (by omega)]
   exact ⟨i + 1, ⟨by omega, all_take_succ hi j2 hx⟩, by omega, Ent.env (by simp only [subEnv, go_sem, ↓reduceIte, Nat.reduceEqDiff]; simp)⟩
 ·simp +contextual -implicitDefEqProofs only [hi, Int.ofNat_lt, go_sem, ↓reduceIte, Nat.reduceEqDiff]
  exact D.Le.sc_eq (by simp only [allIn]; rw [all_of_take hi j2])

end Go.Ax
