/- Contracts of functions of the seat, proved over the engine. No condition. -/
import Derived.Test.YtjnghfepojipiaaX74
import Derived.Test.YtjnghfepojipiaaEnJ
set_option linter.unusedSimpArgs false
set_option linter.unusedVariables false
set_option linter.unnecessarySimpa false
namespace Go.Ax
set_option linter.unusedSimpArgs false
set_option maxRecDepth 20000
set_option maxHeartbeats 4000000
def srt (l : List Int) : List Int := l.mergeSort fun x y => decide (x ≤ y)

def K_sortI (P : Program) (fno : Nat) : Prop := ∀ l : List Int, l.length ≤ 2000000 → AFW P fno [.ar true none 1 (l.map eI)] [.sm 3000000000 0 l.length] [.ar true none 1 ((srt l).map eI)] (.tup [])
theorem np_Ii : ∀ l : List Int, noPtrs (l.map eI) = true := by
 intro l
 induction l with
 | nil => rfl
 | cons a l ih => simpa [noPtrs, eI, D.noPtr] using ih
theorem sz_Ii {l : List Int} : ∀ e ∈ l.map eI, e.size = 1 := by
 intro e he
 obtain ⟨x, _, rfl⟩ := List.mem_map.1 he; rfl
theorem args_sm2 {un : Nat → Option U} {d : D} {id n sz : Nat} {ow : Bool} {nn : Option Bool} {es : List D} (hu : un id = some (.ar ow nn sz es)) (hn : n = es.length) : argsOf un [.im none d, .sm id 0 n] = some [d, .ls nn sz es] := by
 subst hn
 simp [argsOf, AV.arg, hu]
theorem srt_len {l : List Int} : (srt l).length = l.length := by simp [srt]

def k_cloneI : RC := (.seq (.reg false [⟨none, .mv 2 (.c (.ls (some true) 1 []))⟩]) ((.seq ((.seq (.reg false [⟨none, .mv 3 (.t 0)⟩, ⟨none, .snil 4 false (.t 3) (.c (.ls (some true) 1 []))⟩]) (.cond (.t 4) ((.seq (.reg false [⟨none, .mv 2 (.c (.ls (some true) 1 []))⟩]) (.ret))) (.skip)))) ((.seq (.reg false [⟨none, .bs 5 1 (.sc (.int .i64 0)) 0 []⟩, ⟨none, .mv 6 (.t 0)⟩, ⟨none, .app 7 1 8 (.t 5) (.t 6)⟩, ⟨none, .mv 2 (.t 7)⟩]) (.ret))))))
def K_cloneI (P : Program) (fno : Nat) : Prop := ∀ (l : List Int) (hl : l.length ≤ 2000000), AF P fno [.ls (some false) 1 (l.map eI)] (.arr 1 (l.map eI))
theorem a_cloneI {P : Program} (hm : P.follows .mixedOrders = true) {g : Nat} (hr : resF P g = some (8, k_cloneI, [.t 2])) : K_cloneI P g := by
 intro l hl
 refine af_of_res hr hm rfl fun hb => ?_
 cases l with
 | nil =>
  simp +contextual -implicitDefEqProofs only [k_cloneI, List.map_nil, List.length_nil, eM, eG, eS, eB, eI, D.size, D.sizeL, D.sub, Int.cast_ofNat_Int, Int.reduceLT, Int.reduceLE, Int.le_refl, Int.reduceBEq, Int.reduceEq, beq_self_eq_true, Int.reduceToNat, D.isAg, bne, Bool.not_true, Bool.not_false, Bool.true_and, Bool.false_and, Bool.and_true, Bool.and_false, Bool.true_or, Bool.false_or, Bool.or_true, Bool.or_false, D.put, D.cells, modeOf, noPtrs, List.length_map, go_sem, ↓reduceIte, Nat.reduceEqDiff, Nat.reduceAdd, Nat.reduceLeDiff, Nat.reduceMul, Nat.reduceBEq, Nat.reduceBneDiff, Nat.reduceLT, Nat.reduceSub, Int.ofNat_lt, Int.natCast_nonneg]
  exact ⟨by unfold maxEl; omega, by simp⟩
 | cons b l =>
  simp +contextual -implicitDefEqProofs only [k_cloneI, np_Ii, List.map_cons, List.length_cons, eM, eG, eS, eB, eI, D.size, D.sizeL, D.sub, Int.cast_ofNat_Int, Int.reduceLT, Int.reduceLE, Int.le_refl, Int.reduceBEq, Int.reduceEq, beq_self_eq_true, Int.reduceToNat, D.isAg, bne, Bool.not_true, Bool.not_false, Bool.true_and, Bool.false_and, Bool.and_true, Bool.and_false, Bool.true_or, Bool.false_or, Bool.or_true, Bool.or_false, D.put, D.cells, modeOf, noPtrs, List.length_map, go_sem, ↓reduceIte, Nat.reduceEqDiff, Nat.reduceAdd, Nat.reduceLeDiff, Nat.reduceMul, Nat.reduceBEq, Nat.reduceBneDiff, Nat.reduceLT, Nat.reduceSub, Int.ofNat_lt, Int.natCast_nonneg]
  simp only [List.length_cons] at hl
  exact ⟨by omega, by unfold maxEl; omega, sz_Ii (l := b :: l)⟩
def renumM (m : Mo) (l : List Int) : Mo × Int :=
 if okMo m = true then (if (l.length : Int) = m.2.1 ∧ isSetB m.2.1 (srt l) = true then (pickMo m l, 0) else (zMo, 2)) else (zMo, 1)
theorem mem_srt {l : List Int} {x : Int} : x ∈ srt l ↔ x ∈ l := List.mem_mergeSort
theorem pick_srt {m : Mo} {l : List Int} (h : okMo m = true) (hs : isSetB m.2.1 (srt l) = true) : PickOk m l := by
 have p := pick_ok h hs
 exact ⟨by simpa [srt_len] using p.small, p.st, p.sa, fun x hx => p.nn x (mem_srt.2 hx), fun r hr x hx => p.t r hr x (mem_srt.2 hx), fun a ha x hx => p.a a ha x (mem_srt.2 hx), fun a ha r hr x hx => p.b a ha r hr x (mem_srt.2 hx)⟩

def k_imRenumber (f1 f2 f3 f4 f5 : Nat) : RC := (.seq (.reg false [⟨none, .box 2 5 (.t 0)⟩, ⟨none, .zer 4 5 (.ag [(.sc (.int .i64 0)), (.sc (.int .i64 0)), (.sc (.int .i64 0)), (.ls (some true) 1 []), (.ls (some true) 1 [])])⟩, ⟨none, .mv 5 (.c (.sc (.int .i64 0)))⟩]) ((.seq ((.seq (.reg false [⟨none, .ld 7 true 5 (.t 2)⟩, ⟨none, .call (some 8) f1 [(.t 7)]⟩, ⟨none, .un 9 .not (.t 8)⟩]) (.cond (.t 9) ((.seq (.reg false [⟨none, .bld 10 (.ag [(.sc (.int .i64 0)), (.sc (.int .i64 0)), (.sc (.int .i64 0)), (.ls (some true) 1 []), (.ls (some true) 1 [])]) []⟩, ⟨none, .st 5 (.t 4) (.t 10)⟩, ⟨none, .mv 5 (.c (.sc (.int .i64 1)))⟩]) (.ret))) (.skip)))) ((.seq (.reg false [⟨none, .mv 11 (.t 1)⟩, ⟨none, .call (some 12) f2 [(.t 11)]⟩, ⟨none, .mv 6 (.t 12)⟩]) ((.seq (.reg false [⟨none, .mv 13 (.t 6)⟩, ⟨none, .wcl (some 14) f3 [(.t 13)]⟩]) ((.seq ((.seq (.reg false [⟨none, .mv 15 (.t 1)⟩, ⟨none, .len 16 (.t 15)⟩, ⟨none, .fa 17 2 (.t 2)⟩, ⟨none, .ld 18 false 1 (.t 17)⟩, ⟨none, .bin 19 .neq (.t 16) (.t 18)⟩, ⟨none, .mv 20 (.t 19)⟩, ⟨some (20, false), .ld 21 true 5 (.t 2)⟩, ⟨some (20, false), .mv 22 (.t 6)⟩, ⟨some (20, false), .call (some 23) f4 [(.t 21), (.t 22)]⟩, ⟨some (20, false), .un 24 .not (.t 23)⟩, ⟨none, .pick 25 (.t 20) (.c (.sc (.bool true))) (.t 24)⟩]) (.cond (.t 25) ((.seq (.reg false [⟨none, .bld 26 (.ag [(.sc (.int .i64 0)), (.sc (.int .i64 0)), (.sc (.int .i64 0)), (.ls (some true) 1 []), (.ls (some true) 1 [])]) []⟩, ⟨none, .st 5 (.t 4) (.t 26)⟩, ⟨none, .mv 5 (.c (.sc (.int .i64 2)))⟩]) (.ret))) (.skip)))) ((.seq (.reg false [⟨none, .ld 27 true 5 (.t 2)⟩, ⟨none, .mv 28 (.t 1)⟩, ⟨none, .call (some 29) f5 [(.t 27), (.t 28)]⟩, ⟨none, .st 5 (.t 4) (.t 29)⟩, ⟨none, .mv 5 (.c (.sc (.int .i64 0)))⟩]) (.ret))))))))))))
def K_imRenumber (P : Program) (fno : Nat) : Prop := ∀ (m : Mo) (l : List Int) (hl : l.length ≤ 2000000), AF P fno [eM m, .ls (some false) 1 (l.map eI)] (.tup ([.own (eM (renumM m l).1), .own (eI (renumM m l).2)]))
theorem a_imRenumber {P : Program} (hm : P.follows .mixedOrders = true) {g f1 f2 f3 f4 f5 : Nat} (hr : resF P g = some (30, k_imRenumber f1 f2 f3 f4 f5, [.c 4 5 true, .t 5])) (hc1 : K_validModel P f1) (hc2 : K_cloneI P f2) (hc3 : K_sortI P f3) (hc4 : K_isSet P f4) (hc5 : K_chosen P f5) : K_imRenumber P g := by
 intro m l hl
 refine af_of_res hr hm rfl fun hb => ?_
 simp +contextual -implicitDefEqProofs only [k_imRenumber, eM, eG, eS, eB, eI, D.size, D.sizeL, D.sub, Int.cast_ofNat_Int, Int.reduceLT, Int.reduceLE, Int.le_refl, Int.reduceBEq, Int.reduceEq, beq_self_eq_true, Int.reduceToNat, D.isAg, bne, Bool.not_true, Bool.not_false, Bool.true_and, Bool.false_and, Bool.and_true, Bool.and_false, Bool.true_or, Bool.false_or, Bool.or_true, Bool.or_false, D.put, D.cells, modeOf, noPtrs, List.length_map, go_sem, ↓reduceIte, Nat.reduceEqDiff, Nat.reduceAdd, Nat.reduceLeDiff, Nat.reduceMul, Nat.reduceBEq, Nat.reduceBneDiff, Nat.reduceLT, Nat.reduceSub, Int.ofNat_lt, Int.natCast_nonneg]
 refine callQ_self (ds := [eM m]) (by rfl) (hc1 m) ?_
 cases ho : okMo m
 ·have et : renumM m l = (zMo, 1) := by simp [renumM, ho]
  rw [et]
  simp +contextual -implicitDefEqProofs only [zMo_eq, eM, eG, eS, eB, eI, D.size, D.sizeL, D.sub, Int.cast_ofNat_Int, Int.reduceLT, Int.reduceLE, Int.le_refl, Int.reduceBEq, Int.reduceEq, beq_self_eq_true, Int.reduceToNat, D.isAg, bne, Bool.not_true, Bool.not_false, Bool.true_and, Bool.false_and, Bool.and_true, Bool.and_false, Bool.true_or, Bool.false_or, Bool.or_true, Bool.or_false, D.put, D.cells, modeOf, noPtrs, List.length_map, go_sem, ↓reduceIte, Nat.reduceEqDiff, Nat.reduceAdd, Nat.reduceLeDiff, Nat.reduceMul, Nat.reduceBEq, Nat.reduceBneDiff, Nat.reduceLT, Nat.reduceSub, Int.ofNat_lt, Int.natCast_nonneg]
  exact D.Le.refl _
 ·have hp := okMo_pts ho
  simp +contextual -implicitDefEqProofs only [eM, eG, eS, eB, eI, D.size, D.sizeL, D.sub, Int.cast_ofNat_Int, Int.reduceLT, Int.reduceLE, Int.le_refl, Int.reduceBEq, Int.reduceEq, beq_self_eq_true, Int.reduceToNat, D.isAg, bne, Bool.not_true, Bool.not_false, Bool.true_and, Bool.false_and, Bool.and_true, Bool.and_false, Bool.true_or, Bool.false_or, Bool.or_true, Bool.or_false, D.put, D.cells, modeOf, noPtrs, List.length_map, go_sem, ↓reduceIte, Nat.reduceEqDiff, Nat.reduceAdd, Nat.reduceLeDiff, Nat.reduceMul, Nat.reduceBEq, Nat.reduceBneDiff, Nat.reduceLT, Nat.reduceSub, Int.ofNat_lt, Int.natCast_nonneg]
  refine callQ_self (ds := [.ls (some false) 1 (l.map eI)]) (by rfl) (hc2 l hl) ?_
  simp +contextual -implicitDefEqProofs only [eM, eG, eS, eB, eI, D.size, D.sizeL, D.sub, Int.cast_ofNat_Int, Int.reduceLT, Int.reduceLE, Int.le_refl, Int.reduceBEq, Int.reduceEq, beq_self_eq_true, Int.reduceToNat, D.isAg, bne, Bool.not_true, Bool.not_false, Bool.true_and, Bool.false_and, Bool.and_true, Bool.and_false, Bool.true_or, Bool.false_or, Bool.or_true, Bool.or_false, D.put, D.cells, modeOf, noPtrs, List.length_map, go_sem, ↓reduceIte, Nat.reduceEqDiff, Nat.reduceAdd, Nat.reduceLeDiff, Nat.reduceMul, Nat.reduceBEq, Nat.reduceBneDiff, Nat.reduceLT, Nat.reduceSub, Int.ofNat_lt, Int.natCast_nonneg]
  refine wcl_self [12] [] (by rfl) (by rfl) (by rfl) (hc3 l hl) rfl (by simp [wOut, outU, srt_len]) ?_
  simp +contextual -implicitDefEqProofs only [srt_len, eM, eG, eS, eB, eI, D.size, D.sizeL, D.sub, Int.cast_ofNat_Int, Int.reduceLT, Int.reduceLE, Int.le_refl, Int.reduceBEq, Int.reduceEq, beq_self_eq_true, Int.reduceToNat, D.isAg, bne, Bool.not_true, Bool.not_false, Bool.true_and, Bool.false_and, Bool.and_true, Bool.and_false, Bool.true_or, Bool.false_or, Bool.or_true, Bool.or_false, D.put, D.cells, modeOf, noPtrs, List.length_map, go_sem, ↓reduceIte, Nat.reduceEqDiff, Nat.reduceAdd, Nat.reduceLeDiff, Nat.reduceMul, Nat.reduceBEq, Nat.reduceBneDiff, Nat.reduceLT, Nat.reduceSub, Int.ofNat_lt, Int.natCast_nonneg]
  by_cases hlp : (l.length : Int) = m.2.1
  ·have hb1 : ((l.length : Int) == m.2.1) = true := by simp [hlp]
   simp +contextual -implicitDefEqProofs only [hb1, srt_len, eM, eG, eS, eB, eI, D.size, D.sizeL, D.sub, Int.cast_ofNat_Int, Int.reduceLT, Int.reduceLE, Int.le_refl, Int.reduceBEq, Int.reduceEq, beq_self_eq_true, Int.reduceToNat, D.isAg, bne, Bool.not_true, Bool.not_false, Bool.true_and, Bool.false_and, Bool.and_true, Bool.and_false, Bool.true_or, Bool.false_or, Bool.or_true, Bool.or_false, D.put, D.cells, modeOf, noPtrs, List.length_map, go_sem, ↓reduceIte, Nat.reduceEqDiff, Nat.reduceAdd, Nat.reduceLeDiff, Nat.reduceMul, Nat.reduceBEq, Nat.reduceBneDiff, Nat.reduceLT, Nat.reduceSub, Int.ofNat_lt, Int.natCast_nonneg]
   refine callQ_self (ds := [eM m, eS 1 eI (some false, srt l)]) (args_sm2 (by rfl) (by simp [srt_len])) (hc4 m (some false, srt l) (by omega)) ?_
   cases hs : isSetB m.2.1 (srt l)
   ·have et : renumM m l = (zMo, 2) := by simp [renumM, ho, hlp, hs]
    rw [et]
    simp +contextual -implicitDefEqProofs only [eM, eG, eS, eB, eI, D.size, D.sizeL, D.sub, Int.cast_ofNat_Int, Int.reduceLT, Int.reduceLE, Int.le_refl, Int.reduceBEq, Int.reduceEq, beq_self_eq_true, Int.reduceToNat, D.isAg, bne, Bool.not_true, Bool.not_false, Bool.true_and, Bool.false_and, Bool.and_true, Bool.and_false, Bool.true_or, Bool.false_or, Bool.or_true, Bool.or_false, D.put, D.cells, modeOf, noPtrs, List.length_map, go_sem, ↓reduceIte, Nat.reduceEqDiff, Nat.reduceAdd, Nat.reduceLeDiff, Nat.reduceMul, Nat.reduceBEq, Nat.reduceBneDiff, Nat.reduceLT, Nat.reduceSub, Int.ofNat_lt, Int.natCast_nonneg]
    exact D.Le.refl _
   ·have et : renumM m l = (pickMo m l, 0) := by simp [renumM, ho, hlp, hs]
    rw [et]
    simp +contextual -implicitDefEqProofs only [eM, eG, eS, eB, eI, D.size, D.sizeL, D.sub, Int.cast_ofNat_Int, Int.reduceLT, Int.reduceLE, Int.le_refl, Int.reduceBEq, Int.reduceEq, beq_self_eq_true, Int.reduceToNat, D.isAg, bne, Bool.not_true, Bool.not_false, Bool.true_and, Bool.false_and, Bool.and_true, Bool.and_false, Bool.true_or, Bool.false_or, Bool.or_true, Bool.or_false, D.put, D.cells, modeOf, noPtrs, List.length_map, go_sem, ↓reduceIte, Nat.reduceEqDiff, Nat.reduceAdd, Nat.reduceLeDiff, Nat.reduceMul, Nat.reduceBEq, Nat.reduceBneDiff, Nat.reduceLT, Nat.reduceSub, Int.ofNat_lt, Int.natCast_nonneg]
    refine callQ_self (ds := [eM m, eS 1 eI (some false, l)]) (by rfl) (hc5 m (some false, l) (pick_srt ho hs)) ?_
    simp +contextual -implicitDefEqProofs only [eM, eG, eS, eB, eI, D.size, D.sizeL, D.sub, Int.cast_ofNat_Int, Int.reduceLT, Int.reduceLE, Int.le_refl, Int.reduceBEq, Int.reduceEq, beq_self_eq_true, Int.reduceToNat, D.isAg, bne, Bool.not_true, Bool.not_false, Bool.true_and, Bool.false_and, Bool.and_true, Bool.and_false, Bool.true_or, Bool.false_or, Bool.or_true, Bool.or_false, D.put, D.cells, modeOf, noPtrs, List.length_map, go_sem, ↓reduceIte, Nat.reduceEqDiff, Nat.reduceAdd, Nat.reduceLeDiff, Nat.reduceMul, Nat.reduceBEq, Nat.reduceBneDiff, Nat.reduceLT, Nat.reduceSub, Int.ofNat_lt, Int.natCast_nonneg]
  ·have hb1 : ((l.length : Int) == m.2.1) = false := by simp [hlp]
   have et : renumM m l = (zMo, 2) := by simp [renumM, ho, hlp]
   rw [et]
   simp +contextual -implicitDefEqProofs only [hb1, srt_len, eM, eG, eS, eB, eI, D.size, D.sizeL, D.sub, Int.cast_ofNat_Int, Int.reduceLT, Int.reduceLE, Int.le_refl, Int.reduceBEq, Int.reduceEq, beq_self_eq_true, Int.reduceToNat, D.isAg, bne, Bool.not_true, Bool.not_false, Bool.true_and, Bool.false_and, Bool.and_true, Bool.and_false, Bool.true_or, Bool.false_or, Bool.or_true, Bool.or_false, D.put, D.cells, modeOf, noPtrs, List.length_map, go_sem, ↓reduceIte, Nat.reduceEqDiff, Nat.reduceAdd, Nat.reduceLeDiff, Nat.reduceMul, Nat.reduceBEq, Nat.reduceBneDiff, Nat.reduceLT, Nat.reduceSub, Int.ofNat_lt, Int.natCast_nonneg]
   exact D.Le.refl _

def k_spRenumber (f1 f2 f3 : Nat) : RC := (.seq (.reg false [⟨none, .box 2 5 (.t 0)⟩, ⟨none, .zer 4 5 (.ag [(.sc (.int .i64 0)), (.sc (.int .i64 0)), (.sc (.int .i64 0)), (.ls (some true) 1 []), (.ls (some true) 1 [])])⟩, ⟨none, .mv 5 (.c (.sc (.int .i64 0)))⟩]) ((.seq ((.seq (.reg false [⟨none, .call (some 7) f1 [(.t 2)]⟩, ⟨none, .un 8 .not (.t 7)⟩]) (.cond (.t 8) ((.seq (.reg false [⟨none, .bld 9 (.ag [(.sc (.int .i64 0)), (.sc (.int .i64 0)), (.sc (.int .i64 0)), (.ls (some true) 1 []), (.ls (some true) 1 [])]) []⟩, ⟨none, .st 5 (.t 4) (.t 9)⟩, ⟨none, .mv 5 (.c (.sc (.int .i64 1)))⟩]) (.ret))) (.skip)))) ((.seq ((.seq (.reg false [⟨none, .mv 10 (.t 1)⟩, ⟨none, .len 11 (.t 10)⟩, ⟨none, .fa 12 2 (.t 2)⟩, ⟨none, .ld 13 false 1 (.t 12)⟩, ⟨none, .bin 14 .neq (.t 11) (.t 13)⟩]) (.cond (.t 14) ((.seq (.reg false [⟨none, .bld 15 (.ag [(.sc (.int .i64 0)), (.sc (.int .i64 0)), (.sc (.int .i64 0)), (.ls (some true) 1 []), (.ls (some true) 1 [])]) []⟩, ⟨none, .st 5 (.t 4) (.t 15)⟩, ⟨none, .mv 5 (.c (.sc (.int .i64 2)))⟩]) (.ret))) (.skip)))) ((.seq ((.seq (.reg false [⟨none, .mv 6 (.c (.sc (.int .i64 0)))⟩]) (.blk 0 (.loop ((.seq ((.seq (.reg false [⟨none, .mv 16 (.t 6)⟩, ⟨none, .fa 17 2 (.t 2)⟩, ⟨none, .ld 18 false 1 (.t 17)⟩, ⟨none, .bin 19 .lss (.t 16) (.t 18)⟩]) (.cond (.t 19) (.skip) (.exit 0)))) ((.seq (.blk 1 ((.seq (.reg false [⟨none, .mv 22 (.t 1)⟩, ⟨none, .mv 23 (.t 6)⟩, ⟨none, .call (some 24) f2 [(.t 22), (.t 23)]⟩, ⟨none, .un 25 .not (.t 24)⟩]) (.cond (.t 25) ((.seq (.reg false [⟨none, .bld 26 (.ag [(.sc (.int .i64 0)), (.sc (.int .i64 0)), (.sc (.int .i64 0)), (.ls (some true) 1 []), (.ls (some true) 1 [])]) []⟩, ⟨none, .st 5 (.t 4) (.t 26)⟩, ⟨none, .mv 5 (.c (.sc (.int .i64 2)))⟩]) (.ret))) (.skip))))) (.reg false [⟨none, .mv 20 (.t 6)⟩, ⟨none, .bin 21 .add (.t 20) (.c (.sc (.int .i64 1)))⟩, ⟨none, .mv 6 (.t 21)⟩]))))))))) ((.seq (.reg false [⟨none, .mv 27 (.t 1)⟩, ⟨none, .call (some 28) f3 [(.t 2), (.t 27)]⟩, ⟨none, .st 5 (.t 4) (.t 28)⟩, ⟨none, .mv 5 (.c (.sc (.int .i64 0)))⟩]) (.ret))))))))))
def K_spRenumber (P : Program) (fno : Nat) : Prop := ∀ (m : Mo) (l : List Int) (hl : l.length ≤ 2000000), AF P fno [eM m, .ls (some false) 1 (l.map eI)] (.tup ([.own (eM (renumM m l).1), .own (eI (renumM m l).2)]))
theorem a_spRenumber {P : Program} (hm : P.follows .mixedOrders = true) {g f1 f2 f3 : Nat} (hr : resF P g = some (29, k_spRenumber f1 f2 f3, [.c 4 5 true, .t 5])) (hc1 : K_l05Ok P f1) (hc2 : K_l05Has P f2) (hc3 : K_l05Pick P f3) : K_spRenumber P g := by
 intro m l hl
 refine af_of_res hr hm rfl fun hb => ?_
 simp +contextual -implicitDefEqProofs only [k_spRenumber, eM, eG, eS, eB, eI, D.size, D.sizeL, D.sub, Int.cast_ofNat_Int, Int.reduceLT, Int.reduceLE, Int.le_refl, Int.reduceBEq, Int.reduceEq, beq_self_eq_true, Int.reduceToNat, D.isAg, bne, Bool.not_true, Bool.not_false, Bool.true_and, Bool.false_and, Bool.and_true, Bool.and_false, Bool.true_or, Bool.false_or, Bool.or_true, Bool.or_false, D.put, D.cells, modeOf, noPtrs, List.length_map, go_sem, ↓reduceIte, Nat.reduceEqDiff, Nat.reduceAdd, Nat.reduceLeDiff, Nat.reduceMul, Nat.reduceBEq, Nat.reduceBneDiff, Nat.reduceLT, Nat.reduceSub, Int.ofNat_lt, Int.natCast_nonneg]
 refine callQ_self (ds := [.pt (eM m) 0]) (by rfl) (hc1 m) ?_
 cases ho : okMo m
 ·have et : renumM m l = (zMo, 1) := by simp [renumM, ho]
  rw [et]
  simp +contextual -implicitDefEqProofs only [eM, eG, eS, eB, eI, D.size, D.sizeL, D.sub, Int.cast_ofNat_Int, Int.reduceLT, Int.reduceLE, Int.le_refl, Int.reduceBEq, Int.reduceEq, beq_self_eq_true, Int.reduceToNat, D.isAg, bne, Bool.not_true, Bool.not_false, Bool.true_and, Bool.false_and, Bool.and_true, Bool.and_false, Bool.true_or, Bool.false_or, Bool.or_true, Bool.or_false, D.put, D.cells, modeOf, noPtrs, List.length_map, go_sem, ↓reduceIte, Nat.reduceEqDiff, Nat.reduceAdd, Nat.reduceLeDiff, Nat.reduceMul, Nat.reduceBEq, Nat.reduceBneDiff, Nat.reduceLT, Nat.reduceSub, Int.ofNat_lt, Int.natCast_nonneg]
  exact D.Le.refl _
 ·have hp := okMo_pts ho
  by_cases hlp : (l.length : Int) = m.2.1
  ·have hb1 : ((l.length : Int) == m.2.1) = true := by simp [hlp]
   simp +contextual -implicitDefEqProofs only [hb1, eM, eG, eS, eB, eI, D.size, D.sizeL, D.sub, Int.cast_ofNat_Int, Int.reduceLT, Int.reduceLE, Int.le_refl, Int.reduceBEq, Int.reduceEq, beq_self_eq_true, Int.reduceToNat, D.isAg, bne, Bool.not_true, Bool.not_false, Bool.true_and, Bool.false_and, Bool.and_true, Bool.and_false, Bool.true_or, Bool.false_or, Bool.or_true, Bool.or_false, D.put, D.cells, modeOf, noPtrs, List.length_map, go_sem, ↓reduceIte, Nat.reduceEqDiff, Nat.reduceAdd, Nat.reduceLeDiff, Nat.reduceMul, Nat.reduceBEq, Nat.reduceBneDiff, Nat.reduceLT, Nat.reduceSub, Int.ofNat_lt, Int.natCast_nonneg]
   refine vc_onU (α := Nat) [5, 6, 16, 17, 18, 19, 20, 21, 22, 23, 24, 25, 26] (fun i => [(6, .im none (.sc (.int .i64 i)))]) (fun i => [(4, .ar true (some false) 5 [.ag [.sc (.int .i64 0), .sc (.int .i64 0), .sc (.int .i64 0), .ls (some true) 1 [], .ls (some true) 1 []]]), (2, .ar false (some false) 5 [.ag [.sc (.int .i64 m.1.1), .sc (.int .i64 m.1.2), .sc (.int .i64 m.2.1), .ls m.2.2.1.1 1 (m.2.2.1.2.map (eS 1 eB)), .ls m.2.2.2.1 1 (m.2.2.2.2.map (eS 1 (eS 1 eB)))]])]) (fun i => i ≤ l.length ∧ (List.range i).all (fun (x : Nat) => hasI l x) = true) (fun i => l.length - i) 0 (Ent.to [] (by simp only [go_sem, ↓reduceIte, Nat.reduceEqDiff, Nat.reduceBEq, Nat.reduceBneDiff]; rfl) rfl (by simp) (by rfl) (by simp only [subEnv, go_sem, ↓reduceIte, Nat.reduceEqDiff, Nat.reduceBEq, keep, memN, Bool.or_false, Bool.false_or, Bool.or_self] <;> simp)) ⟨Nat.zero_le _, rfl⟩ ?_
   rintro i ⟨hi0, hi1⟩
   by_cases hi : i < l.length
   ·have hi2 : (i : Int) < m.2.1 := by omega
    simp +contextual -implicitDefEqProofs only [hi2, eM, eG, eS, eB, eI, D.size, D.sizeL, D.sub, Int.cast_ofNat_Int, Int.reduceLT, Int.reduceLE, Int.le_refl, Int.reduceBEq, Int.reduceEq, beq_self_eq_true, Int.reduceToNat, D.isAg, bne, Bool.not_true, Bool.not_false, Bool.true_and, Bool.false_and, Bool.and_true, Bool.and_false, Bool.true_or, Bool.false_or, Bool.or_true, Bool.or_false, D.put, D.cells, modeOf, noPtrs, List.length_map, go_sem, ↓reduceIte, Nat.reduceEqDiff, Nat.reduceAdd, Nat.reduceLeDiff, Nat.reduceMul, Nat.reduceBEq, Nat.reduceBneDiff, Nat.reduceLT, Nat.reduceSub, Int.ofNat_lt, Int.natCast_nonneg]
    refine callQ_self (ds := [eS 1 eI (some false, l), eI i]) (by rfl) (hc2 (some false, l) i) ?_
    cases hh : hasI l i
    ·have et : renumM m l = (zMo, 2) := by
      have : isSetB m.2.1 (srt l) = false := by
       rw [← hlp, srt, renum_has l.length l rfl, List.all_eq_false]
       exact ⟨i, by simpa using hi, by simp [hh]⟩
      simp [renumM, ho, this]
     rw [et]
     simp +contextual -implicitDefEqProofs only [eM, eG, eS, eB, eI, D.size, D.sizeL, D.sub, Int.cast_ofNat_Int, Int.reduceLT, Int.reduceLE, Int.le_refl, Int.reduceBEq, Int.reduceEq, beq_self_eq_true, Int.reduceToNat, D.isAg, bne, Bool.not_true, Bool.not_false, Bool.true_and, Bool.false_and, Bool.and_true, Bool.and_false, Bool.true_or, Bool.false_or, Bool.or_true, Bool.or_false, D.put, D.cells, modeOf, noPtrs, List.length_map, go_sem, ↓reduceIte, Nat.reduceEqDiff, Nat.reduceAdd, Nat.reduceLeDiff, Nat.reduceMul, Nat.reduceBEq, Nat.reduceBneDiff, Nat.reduceLT, Nat.reduceSub, Int.ofNat_lt, Int.natCast_nonneg]
     exact D.Le.refl _
    ·simp +contextual -implicitDefEqProofs only [eM, eG, eS, eB, eI, D.size, D.sizeL, D.sub, Int.cast_ofNat_Int, Int.reduceLT, Int.reduceLE, Int.le_refl, Int.reduceBEq, Int.reduceEq, beq_self_eq_true, Int.reduceToNat, D.isAg, bne, Bool.not_true, Bool.not_false, Bool.true_and, Bool.false_and, Bool.and_true, Bool.and_false, Bool.true_or, Bool.false_or, Bool.or_true, Bool.or_false, D.put, D.cells, modeOf, noPtrs, List.length_map, go_sem, ↓reduceIte, Nat.reduceEqDiff, Nat.reduceAdd, Nat.reduceLeDiff, Nat.reduceMul, Nat.reduceBEq, Nat.reduceBneDiff, Nat.reduceLT, Nat.reduceSub, Int.ofNat_lt, Int.natCast_nonneg]
     rw [wrap_i64 (by omega) (by omega)]
     exact ⟨i + 1, ⟨by omega, by rw [List.range_succ, List.all_append, hi1]; simp [hh]⟩, by omega, Ent.to [] (by simp only [go_sem, ↓reduceIte, Nat.reduceEqDiff, Nat.reduceBEq, Nat.reduceBneDiff]; rfl) rfl (by simp) (by rfl) (by simp only [subEnv, go_sem, ↓reduceIte, Nat.reduceEqDiff, Nat.reduceBEq, keep, memN, Bool.or_false, Bool.false_or, Bool.or_self] <;> simp)⟩
   ·obtain rfl : i = l.length := by omega
    have hs : isSetB m.2.1 (srt l) = true := by rw [← hlp, srt, renum_has l.length l rfl]; exact hi1
    have et : renumM m l = (pickMo m l, 0) := by simp [renumM, ho, hlp, hs]
    have hi2 : ¬ (l.length : Int) < m.2.1 := by omega
    rw [et]
    simp +contextual -implicitDefEqProofs only [hi2, eM, eG, eS, eB, eI, D.size, D.sizeL, D.sub, Int.cast_ofNat_Int, Int.reduceLT, Int.reduceLE, Int.le_refl, Int.reduceBEq, Int.reduceEq, beq_self_eq_true, Int.reduceToNat, D.isAg, bne, Bool.not_true, Bool.not_false, Bool.true_and, Bool.false_and, Bool.and_true, Bool.and_false, Bool.true_or, Bool.false_or, Bool.or_true, Bool.or_false, D.put, D.cells, modeOf, noPtrs, List.length_map, go_sem, ↓reduceIte, Nat.reduceEqDiff, Nat.reduceAdd, Nat.reduceLeDiff, Nat.reduceMul, Nat.reduceBEq, Nat.reduceBneDiff, Nat.reduceLT, Nat.reduceSub, Int.ofNat_lt, Int.natCast_nonneg]
    refine callQ_self (ds := [.pt (eM m) 0, eS 1 eI (some false, l)]) (by rfl) (hc3 m (some false, l) (pick_srt ho hs)) ?_
    simp +contextual -implicitDefEqProofs only [eM, eG, eS, eB, eI, D.size, D.sizeL, D.sub, Int.cast_ofNat_Int, Int.reduceLT, Int.reduceLE, Int.le_refl, Int.reduceBEq, Int.reduceEq, beq_self_eq_true, Int.reduceToNat, D.isAg, bne, Bool.not_true, Bool.not_false, Bool.true_and, Bool.false_and, Bool.and_true, Bool.and_false, Bool.true_or, Bool.false_or, Bool.or_true, Bool.or_false, D.put, D.cells, modeOf, noPtrs, List.length_map, go_sem, ↓reduceIte, Nat.reduceEqDiff, Nat.reduceAdd, Nat.reduceLeDiff, Nat.reduceMul, Nat.reduceBEq, Nat.reduceBneDiff, Nat.reduceLT, Nat.reduceSub, Int.ofNat_lt, Int.natCast_nonneg]
  ·have hb1 : ((l.length : Int) == m.2.1) = false := by simp [hlp]
   have et : renumM m l = (zMo, 2) := by simp [renumM, ho, hlp]
   rw [et]
   simp +contextual -implicitDefEqProofs only [hb1, eM, eG, eS, eB, eI, D.size, D.sizeL, D.sub, Int.cast_ofNat_Int, Int.reduceLT, Int.reduceLE, Int.le_refl, Int.reduceBEq, Int.reduceEq, beq_self_eq_true, Int.reduceToNat, D.isAg, bne, Bool.not_true, Bool.not_false, Bool.true_and, Bool.false_and, Bool.and_true, Bool.and_false, Bool.true_or, Bool.false_or, Bool.or_true, Bool.or_false, D.put, D.cells, modeOf, noPtrs, List.length_map, go_sem, ↓reduceIte, Nat.reduceEqDiff, Nat.reduceAdd, Nat.reduceLeDiff, Nat.reduceMul, Nat.reduceBEq, Nat.reduceBneDiff, Nat.reduceLT, Nat.reduceSub, Int.ofNat_lt, Int.natCast_nonneg]
   exact D.Le.refl _
end Go.Ax
