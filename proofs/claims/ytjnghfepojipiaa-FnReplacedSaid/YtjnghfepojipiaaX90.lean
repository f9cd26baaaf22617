/- Contracts of functions of the seat, proved over the engine. No condition. -/
import Derived.Test.YtjnghfepojipiaaX22
import Derived.Test.YtjnghfepojipiaaAxSB
set_option linter.unusedSimpArgs false
set_option linter.unusedVariables false
set_option linter.unnecessarySimpa false
namespace Go.Ax
set_option linter.unusedSimpArgs false
set_option maxRecDepth 20000
set_option maxHeartbeats 4000000
def putAt : List Int → Ex → Ex → Ex
 | [], _, r => cpE r
 | x :: xs, .mk k n _ ks, r => .mk k n (nnL (List.range ks.length)) ((List.range ks.length).map fun (j : Nat) => if (j : Int) = x then putAt xs (ks.getD j E0) r else cpE (ks.getD j E0))
theorem putAt_nil {e r : Ex} : putAt [] e r = cpE r := by rw [putAt]
theorem putAt_cons {x : Int} {xs : List Int} {k n : Int} {nn : Option Bool} {ks : List Ex} {r : Ex} : putAt (x :: xs) (.mk k n nn ks) r = .mk k n (nnL (List.range ks.length)) ((List.range ks.length).map fun (j : Nat) => if (j : Int) = x then putAt xs (ks.getD j E0) r else cpE (ks.getD j E0)) := by rw [putAt]
theorem args_vbE {un : Nat → Option U} {d : D} {id : Nat} {e r : Ex} (hu : un id = some (.bx 3 [.im none (eE e), .im none (eE r)])) : argsOf un [.im none d, .vb id 2] = some [d, .ls (some false) 3 [eE e, eE r]] := by
 simp [argsOf, AV.arg, hu, imDs, eE_size]
theorem nnL_rapp {l : List Nat} {x : Nat} : nnL (l ++ [x]) = some false := by cases l <;> rfl
theorem getD_get {ks : List Ex} {i : Nat} (h : i < ks.length) : ks.getD i E0 = ks[i] := by simp [h]

def k_replaced (g f1 : Nat) : RC := (.seq (.reg false [⟨none, .box 3 3 (.t 0)⟩, ⟨none, .box 5 3 (.t 2)⟩, ⟨none, .zer 6 3 (.ag [(.sc (.int .i64 0)), (.sc (.int .i64 0)), (.ls (some true) 3 [])])⟩]) ((.seq ((.seq (.reg false [⟨none, .mv 10 (.t 1)⟩, ⟨none, .len 11 (.t 10)⟩, ⟨none, .bin 12 .eql (.t 11) (.c (.sc (.int .i64 0)))⟩]) (.cond (.t 12) ((.seq (.reg false [⟨none, .ld 13 true 3 (.t 5)⟩, ⟨none, .call (some 14) f1 [(.t 13)]⟩, ⟨none, .st 3 (.t 6) (.t 14)⟩]) (.ret))) (.skip)))) ((.seq (.reg false [⟨none, .fa 15 0 (.t 3)⟩, ⟨none, .ld 16 false 1 (.t 15)⟩, ⟨none, .fa 17 1 (.t 3)⟩, ⟨none, .ld 18 false 1 (.t 17)⟩, ⟨none, .bld 19 (.ag [(.sc (.int .i64 0)), (.sc (.int .i64 0)), (.ls (some true) 3 [])]) [(0, 1, (.t 16)), (1, 1, (.t 18))]⟩, ⟨none, .zer 7 3 (.ag [(.sc (.int .i64 0)), (.sc (.int .i64 0)), (.ls (some true) 3 [])])⟩, ⟨none, .st 3 (.t 7) (.t 19)⟩]) ((.seq ((.seq (.reg false [⟨none, .fa 20 2 (.t 3)⟩, ⟨none, .ld 21 false 1 (.t 20)⟩, ⟨none, .len 22 (.t 21)⟩, ⟨none, .mv 23 (.c (.sc (.int .i64 0)))⟩]) (.blk 0 (.loop ((.seq (.reg false [⟨none, .bin 24 .lss (.t 23) (.t 22)⟩]) ((.seq (.cond (.t 24) (.skip) (.exit 0)) ((.seq (.blk 1 ((.seq (.reg false [⟨none, .mv 25 (.t 23)⟩, ⟨none, .ia 26 3 (.t 21) (.t 23)⟩, ⟨none, .ld 27 true 3 (.t 26)⟩, ⟨none, .zer 9 3 (.ag [(.sc (.int .i64 0)), (.sc (.int .i64 0)), (.ls (some true) 3 [])])⟩, ⟨none, .mv 8 (.t 25)⟩, ⟨none, .st 3 (.t 9) (.t 27)⟩]) ((.seq (.reg false [⟨none, .mv 28 (.t 8)⟩, ⟨none, .mv 29 (.t 1)⟩, ⟨none, .ia 30 1 (.t 29) (.c (.sc (.int .i64 0)))⟩, ⟨none, .ld 31 false 1 (.t 30)⟩, ⟨none, .bin 32 .eql (.t 28) (.t 31)⟩]) (.cond (.t 32) (.reg true [⟨none, .fa 33 2 (.t 7)⟩, ⟨none, .ld 34 false 1 (.t 33)⟩, ⟨none, .ld 35 true 3 (.t 9)⟩, ⟨none, .mv 36 (.t 1)⟩, ⟨none, .slc 37 1 (.t 36) (some (.c (.sc (.int .i64 1)))) none⟩, ⟨none, .ld 38 true 3 (.t 5)⟩, ⟨none, .call (some 39) g [(.t 35), (.t 37), (.t 38)]⟩, ⟨none, .bs 40 3 (.ag [(.sc (.int .i64 0)), (.sc (.int .i64 0)), (.ls (some true) 3 [])]) 1 [(0, (.t 39))]⟩, ⟨none, .app 41 3 40 (.t 34) (.t 40)⟩, ⟨none, .fa 42 2 (.t 7)⟩, ⟨none, .st 1 (.t 42) (.t 41)⟩]) (.reg true [⟨none, .fa 43 2 (.t 7)⟩, ⟨none, .ld 44 false 1 (.t 43)⟩, ⟨none, .ld 45 true 3 (.t 9)⟩, ⟨none, .call (some 46) f1 [(.t 45)]⟩, ⟨none, .bs 47 3 (.ag [(.sc (.int .i64 0)), (.sc (.int .i64 0)), (.ls (some true) 3 [])]) 1 [(0, (.t 46))]⟩, ⟨none, .app 48 3 40 (.t 44) (.t 47)⟩, ⟨none, .fa 49 2 (.t 7)⟩, ⟨none, .st 1 (.t 49) (.t 48)⟩]))))))) (.reg false [⟨none, .bin 50 .add (.t 23) (.c (.sc (.int .i64 1)))⟩, ⟨none, .mv 23 (.t 50)⟩]))))))))))) ((.seq (.reg false [⟨none, .ld 51 true 3 (.t 7)⟩, ⟨none, .st 3 (.t 6) (.t 51)⟩]) (.ret))))))))))
def K_replaced (P : Program) (fno : Nat) : Prop := ∀ (nnx : Option Bool) (xs : List Int) (r : Ex) (hr0 : fitE r) (e : Ex) (hf : fitE e), AF P fno [eE e, .ls nnx 1 (xs.map eI), eE r] (.own (eE (putAt xs e r)))
theorem a_replaced {P : Program} (hm : P.follows .mixedOrders = true) {g f1 : Nat} (hr : resF P g = some (52, k_replaced g f1, [.c 6 3 true])) (hc1 : K_copyExpr P f1) : K_replaced P g := by
 intro nnx xs r hr0
 have z0 : (((0 : Nat) : Int) == 0) = true := rfl
 induction xs generalizing nnx with
 | nil =>
  intro e hf
  refine af_of_res hr hm rfl fun hb => ?_
  obtain ⟨k, n, nn, ks, rfl⟩ := Ex.ex e
  rw [putAt_nil]
  simp +contextual -implicitDefEqProofs only [k_replaced, z0, eE_mk, List.map_nil, List.length_nil, D.put, D.cells, D.size, D.sizeL, modeOf, noPtrs, List.length_map, sub_agt, sub_agf, sub_sc, sub_ls, isAg_ag, isAg_sc, isAg_ls, encE.sub, eE_size, eE_isAg, go_sem, eI, eB, ↓reduceIte, Nat.reduceEqDiff, Nat.reduceAdd, Nat.reduceLeDiff, Nat.reduceMul, Nat.reduceBEq, Nat.reduceBneDiff, Nat.reduceLT, Nat.reduceSub, Int.ofNat_lt, Int.natCast_nonneg]
  refine callQ_self (ds := [eE r]) (by rfl) (hc1 r hr0) ?_
  simp +contextual -implicitDefEqProofs only [eE_mk, D.put, D.cells, D.size, D.sizeL, modeOf, noPtrs, List.length_map, sub_agt, sub_agf, sub_sc, sub_ls, isAg_ag, isAg_sc, isAg_ls, encE.sub, eE_size, eE_isAg, go_sem, eI, eB, ↓reduceIte, Nat.reduceEqDiff, Nat.reduceAdd, Nat.reduceLeDiff, Nat.reduceMul, Nat.reduceBEq, Nat.reduceBneDiff, Nat.reduceLT, Nat.reduceSub, Int.ofNat_lt, Int.natCast_nonneg]
 | cons x xs ihx =>
  intro e hf
  obtain ⟨k, n, nn, ks, rfl⟩ := Ex.ex e
  rw [fitE_mk] at hf
  rw [putAt_cons, eE_mk, eE_mk]
  refine af_of_res hr hm rfl fun hb => ?_
  have hl : ks.length ≤ 9223372036854775807 := by
   have := hb.1
   simp only [D.bd, D.bdL, List.length_map, maxEl] at this
   exact this.2.2.1.1
  have hz : (((xs.length + 1 : Nat) : Int) == 0) = false := by simp; omega
  simp +contextual -implicitDefEqProofs only [k_replaced, hz, List.map_cons, List.length_cons, D.put, D.cells, D.size, D.sizeL, modeOf, noPtrs, List.length_map, sub_agt, sub_agf, sub_sc, sub_ls, isAg_ag, isAg_sc, isAg_ls, encE.sub, eE_size, eE_isAg, go_sem, eI, eB, ↓reduceIte, Nat.reduceEqDiff, Nat.reduceAdd, Nat.reduceLeDiff, Nat.reduceMul, Nat.reduceBEq, Nat.reduceBneDiff, Nat.reduceLT, Nat.reduceSub, Int.ofNat_lt, Int.natCast_nonneg]
  refine vc_onU (α := Nat) [8, 9, 23, 24, 25, 26, 27, 28, 29, 30, 31, 32, 33, 34, 35, 36, 37, 38, 39, 40, 41, 42, 43, 44, 45, 46, 47, 48, 49, 50] (fun i => [(23, .im none (.sc (.int .i64 i)))]) (fun i => [(7, .ar true (some false) 3 [.ag [.sc (.int .i64 k), .sc (.int .i64 n), .ls (nnL (List.range i)) 3 ((List.range i).map fun (j : Nat) => eE (if (j : Int) = x then putAt xs (ks.getD j E0) r else cpE (ks.getD j E0)))]]), (6, .ar true (some false) 3 [.ag [.sc (.int .i64 0), .sc (.int .i64 0), .ls (some true) 3 []]]), (5, .ar false (some false) 3 [eE r]), (3, .ar false (some false) 3 [.ag [.sc (.int .i64 k), .sc (.int .i64 n), .ls nn 3 (ks.map eE)]])]) (fun i => i ≤ ks.length) (fun i => ks.length - i) 0 (Ent.to [] (by simp only [go_sem, ↓reduceIte, Nat.reduceEqDiff, Nat.reduceBEq, Nat.reduceBneDiff]; rfl) rfl (by simp [nnL]) (by rfl) (by simp only [subEnv, go_sem, ↓reduceIte, Nat.reduceEqDiff, Nat.reduceBEq, keep, memN, Bool.or_false, Bool.false_or, Bool.or_self] <;> simp)) (Nat.zero_le _) ?_
  intro i hi0
  by_cases hi : i < ks.length
  ·have e1 := at_map (f := eE) hi
   have hg := getD_get hi
   by_cases hix : (i : Int) = x
   ·have hxe : ((i : Int) == x) = true := by simp [hix]
    have hdr : List.drop (Int.toNat 1) (D.sc (Value.int IntKind.i64 x) :: List.take xs.length (List.map eI xs)) = List.map eI xs := by simp; exact List.take_of_length_le (by simp)
    simp +contextual -implicitDefEqProofs only [hi, e1, hxe, eI, hdr, List.map_cons, List.length_cons, D.put, D.cells, D.size, D.sizeL, modeOf, noPtrs, List.length_map, sub_agt, sub_agf, sub_sc, sub_ls, isAg_ag, isAg_sc, isAg_ls, encE.sub, eE_size, eE_isAg, go_sem, eB, ↓reduceIte, Nat.reduceEqDiff, Nat.reduceAdd, Nat.reduceLeDiff, Nat.reduceMul, Nat.reduceBEq, Nat.reduceBneDiff, Nat.reduceLT, Nat.reduceSub, Int.ofNat_lt, Int.natCast_nonneg]
    refine ⟨⟨by omega, by omega⟩, ⟨by omega, by omega, by omega⟩, callQ_self (ds := [eE ks[i], .ls nnx 1 (xs.map eI), eE r]) (by rfl) (ihx nnx ks[i] (hf.2 _ (List.getElem_mem hi))) ?_⟩
    simp +contextual -implicitDefEqProofs only [hi, e1, eI, List.length_range, D.put, D.cells, D.size, D.sizeL, modeOf, noPtrs, List.length_map, sub_agt, sub_agf, sub_sc, sub_ls, isAg_ag, isAg_sc, isAg_ls, encE.sub, eE_size, eE_isAg, go_sem, eB, ↓reduceIte, Nat.reduceEqDiff, Nat.reduceAdd, Nat.reduceLeDiff, Nat.reduceMul, Nat.reduceBEq, Nat.reduceBneDiff, Nat.reduceLT, Nat.reduceSub, Int.ofNat_lt, Int.natCast_nonneg]
    refine ⟨rfl, ⟨by omega, by unfold maxEl; omega, by simp [eE_size]⟩, i + 1, by omega, by omega, ?_⟩
    rw [wrap_i64 (by omega) (by omega)]
    exact Ent.to [9] (by simp only [go_sem, ↓reduceIte, Nat.reduceEqDiff, Nat.reduceBEq, Nat.reduceBneDiff]; rfl) rfl (by simp [nnL_rapp, List.range_succ, List.map_append, hix, hi]) (by rfl) (by simp only [subEnv, go_sem, ↓reduceIte, Nat.reduceEqDiff, Nat.reduceBEq, keep, memN, Bool.or_false, Bool.false_or, Bool.or_self] <;> simp)
   ·have hxe : ((i : Int) == x) = false := by simp [hix]
    simp +contextual -implicitDefEqProofs only [hi, e1, hxe, eI, List.map_cons, List.length_cons, D.put, D.cells, D.size, D.sizeL, modeOf, noPtrs, List.length_map, sub_agt, sub_agf, sub_sc, sub_ls, isAg_ag, isAg_sc, isAg_ls, encE.sub, eE_size, eE_isAg, go_sem, eB, ↓reduceIte, Nat.reduceEqDiff, Nat.reduceAdd, Nat.reduceLeDiff, Nat.reduceMul, Nat.reduceBEq, Nat.reduceBneDiff, Nat.reduceLT, Nat.reduceSub, Int.ofNat_lt, Int.natCast_nonneg]
    refine ⟨⟨by omega, by omega⟩, callQ_self (ds := [eE ks[i]]) (by rfl) (hc1 ks[i] (hf.2 _ (List.getElem_mem hi))) ?_⟩
    simp +contextual -implicitDefEqProofs only [hi, e1, eI, List.length_range, D.put, D.cells, D.size, D.sizeL, modeOf, noPtrs, List.length_map, sub_agt, sub_agf, sub_sc, sub_ls, isAg_ag, isAg_sc, isAg_ls, encE.sub, eE_size, eE_isAg, go_sem, eB, ↓reduceIte, Nat.reduceEqDiff, Nat.reduceAdd, Nat.reduceLeDiff, Nat.reduceMul, Nat.reduceBEq, Nat.reduceBneDiff, Nat.reduceLT, Nat.reduceSub, Int.ofNat_lt, Int.natCast_nonneg]
    refine ⟨rfl, ⟨by omega, by unfold maxEl; omega, by simp [eE_size]⟩, i + 1, by omega, by omega, ?_⟩
    rw [wrap_i64 (by omega) (by omega)]
    exact Ent.to [9] (by simp only [go_sem, ↓reduceIte, Nat.reduceEqDiff, Nat.reduceBEq, Nat.reduceBneDiff]; rfl) rfl (by simp [nnL_rapp, List.range_succ, List.map_append, hix, hi]) (by rfl) (by simp only [subEnv, go_sem, ↓reduceIte, Nat.reduceEqDiff, Nat.reduceBEq, keep, memN, Bool.or_false, Bool.false_or, Bool.or_self] <;> simp)
  ·obtain rfl : i = ks.length := by omega
   simp +contextual -implicitDefEqProofs only [hi, D.put, D.cells, D.size, D.sizeL, modeOf, noPtrs, List.length_map, sub_agt, sub_agf, sub_sc, sub_ls, isAg_ag, isAg_sc, isAg_ls, encE.sub, eE_size, eE_isAg, go_sem, eI, eB, ↓reduceIte, Nat.reduceEqDiff, Nat.reduceAdd, Nat.reduceLeDiff, Nat.reduceMul, Nat.reduceBEq, Nat.reduceBneDiff, Nat.reduceLT, Nat.reduceSub, Int.ofNat_lt, Int.natCast_nonneg]
   simp only [List.map_map, Function.comp_def]
   exact D.Le.refl _

def replM (g : Int × Int) (e : Ex) (xs : List Int) (r : Ex) : Ex × Int :=
 if (atE e xs false).2.2 = true then (if ((atE e xs false).2.1 && !condE r) = true then (E0, 4) else if okE g (putAt xs e r) = true then (putAt xs e r, 0) else (E0, 3)) else (E0, 2)
def replT (g : Int × Int) (e : Ex) (xs : List Int) (r : Ex) : Ex × Int := if (okG g && (okE g e && okE g r)) = true then replM g e xs r else (E0, 1)

def k_imReplaceAt (f1 f2 f3 f4 : Nat) : RC := (.seq (.reg false [⟨none, .box 4 2 (.t 0)⟩, ⟨none, .box 5 3 (.t 1)⟩, ⟨none, .box 7 3 (.t 3)⟩, ⟨none, .zer 8 3 (.ag [(.sc (.int .i64 0)), (.sc (.int .i64 0)), (.ls (some true) 3 [])])⟩, ⟨none, .mv 9 (.c (.sc (.int .i64 0)))⟩]) ((.seq (.reg false [⟨none, .ld 15 true 3 (.t 5)⟩, ⟨none, .mv 16 (.t 2)⟩, ⟨none, .call (some 17) f1 [(.t 15), (.t 16)]⟩, ⟨none, .mv 14 (.t 17)⟩, ⟨none, .ext 18 (.t 14) 0⟩, ⟨none, .ext 19 (.t 14) 1⟩, ⟨none, .ext 20 (.t 14) 2⟩, ⟨none, .zer 10 3 (.ag [(.sc (.int .i64 0)), (.sc (.int .i64 0)), (.ls (some true) 3 [])])⟩, ⟨none, .st 3 (.t 10) (.t 18)⟩, ⟨none, .mv 11 (.t 19)⟩, ⟨none, .mv 12 (.t 20)⟩]) ((.seq ((.seq (.reg false [⟨none, .mv 21 (.t 12)⟩, ⟨none, .un 22 .not (.t 21)⟩]) (.cond (.t 22) ((.seq (.reg false [⟨none, .bld 23 (.ag [(.sc (.int .i64 0)), (.sc (.int .i64 0)), (.ls (some true) 3 [])]) []⟩, ⟨none, .st 3 (.t 8) (.t 23)⟩, ⟨none, .mv 9 (.c (.sc (.int .i64 2)))⟩]) (.ret))) (.skip)))) ((.seq ((.seq (.reg false [⟨none, .mv 24 (.t 11)⟩, ⟨none, .mv 25 (.t 24)⟩, ⟨some (25, true), .ld 26 true 3 (.t 7)⟩, ⟨some (25, true), .call (some 27) f2 [(.t 26)]⟩, ⟨some (25, true), .un 28 .not (.t 27)⟩, ⟨none, .pick 29 (.t 25) (.t 28) (.c (.sc (.bool false)))⟩]) (.cond (.t 29) ((.seq (.reg false [⟨none, .bld 30 (.ag [(.sc (.int .i64 0)), (.sc (.int .i64 0)), (.ls (some true) 3 [])]) []⟩, ⟨none, .st 3 (.t 8) (.t 30)⟩, ⟨none, .mv 9 (.c (.sc (.int .i64 4)))⟩]) (.ret))) (.skip)))) ((.seq (.reg false [⟨none, .ld 31 true 3 (.t 5)⟩, ⟨none, .mv 32 (.t 2)⟩, ⟨none, .ld 33 true 3 (.t 7)⟩, ⟨none, .call (some 34) f3 [(.t 31), (.t 32), (.t 33)]⟩, ⟨none, .zer 13 3 (.ag [(.sc (.int .i64 0)), (.sc (.int .i64 0)), (.ls (some true) 3 [])])⟩, ⟨none, .st 3 (.t 13) (.t 34)⟩]) ((.seq ((.seq (.reg false [⟨none, .ld 35 true 2 (.t 4)⟩, ⟨none, .ld 36 true 3 (.t 13)⟩, ⟨none, .call (some 37) f4 [(.t 35), (.t 36)]⟩, ⟨none, .un 38 .not (.t 37)⟩]) (.cond (.t 38) ((.seq (.reg false [⟨none, .bld 39 (.ag [(.sc (.int .i64 0)), (.sc (.int .i64 0)), (.ls (some true) 3 [])]) []⟩, ⟨none, .st 3 (.t 8) (.t 39)⟩, ⟨none, .mv 9 (.c (.sc (.int .i64 3)))⟩]) (.ret))) (.skip)))) ((.seq (.reg false [⟨none, .ld 40 true 3 (.t 13)⟩, ⟨none, .st 3 (.t 8) (.t 40)⟩, ⟨none, .mv 9 (.c (.sc (.int .i64 0)))⟩]) (.ret))))))))))))))
def K_imReplaceAt (P : Program) (fno : Nat) : Prop := ∀ (g0 : Int × Int) (e : Ex) (nn : Option Bool) (xs : List Int) (r : Ex) (hf : fitE e) (hr0 : fitE r), AF P fno [eG g0, eE e, .ls nn 1 (xs.map eI), eE r] (.tup ([.own (eE (replM g0 e xs r).1), .own (eI (replM g0 e xs r).2)]))
theorem a_imReplaceAt {P : Program} (hm : P.follows .mixedOrders = true) {g f1 f2 f3 f4 : Nat} (hr : resF P g = some (41, k_imReplaceAt f1 f2 f3 f4, [.c 8 3 true, .t 9])) (hc1 : K_nodeAt P f1) (hc2 : K_isCondition P f2) (hc3 : K_replaced P f3) (hc4 : K_isExpr P f4) : K_imReplaceAt P g := by
 intro g0 e nn xs r hf hr0
 refine af_of_res hr hm rfl fun hb => ?_
 have hl := hc1 e nn xs hf
 unfold nodeE at hl
 generalize hat : atE e xs false = q at hl
 obtain ⟨node, bl, ok⟩ := q
 simp only at hl
 simp +contextual -implicitDefEqProofs only [k_imReplaceAt, eG, D.put, D.cells, D.size, D.sizeL, modeOf, noPtrs, List.length_map, sub_agt, sub_agf, sub_sc, sub_ls, isAg_ag, isAg_sc, isAg_ls, encE.sub, eE_size, eE_isAg, go_sem, eI, eB, ↓reduceIte, Nat.reduceEqDiff, Nat.reduceAdd, Nat.reduceLeDiff, Nat.reduceMul, Nat.reduceBEq, Nat.reduceBneDiff, Nat.reduceLT, Nat.reduceSub, Int.ofNat_lt, Int.natCast_nonneg]
 refine callQ_self (ds := [eE e, .ls nn 1 (xs.map eI)]) (by rfl) hl ?_
 cases ok
 ·have et : replM g0 e xs r = (E0, 2) := by simp only [replM, hat, Bool.false_eq_true, if_false]
  rw [et]
  simp +contextual -implicitDefEqProofs only [bne, Bool.not_true, Bool.not_false, Bool.true_and, Bool.false_and, Bool.and_true, Bool.and_false, Bool.true_or, Bool.false_or, Bool.or_true, Bool.or_false, eB, eE_E0, D.put, D.cells, D.size, D.sizeL, modeOf, noPtrs, List.length_map, sub_agt, sub_agf, sub_sc, sub_ls, isAg_ag, isAg_sc, isAg_ls, encE.sub, eE_size, eE_isAg, go_sem, eI, ↓reduceIte, Nat.reduceEqDiff, Nat.reduceAdd, Nat.reduceLeDiff, Nat.reduceMul, Nat.reduceBEq, Nat.reduceBneDiff, Nat.reduceLT, Nat.reduceSub, Int.ofNat_lt, Int.natCast_nonneg]
 cases n2 : (eE node).noPtr
 all_goals
  simp +contextual -implicitDefEqProofs only [bne, Bool.not_true, Bool.not_false, Bool.true_and, Bool.false_and, Bool.and_true, Bool.and_false, Bool.true_or, Bool.false_or, Bool.or_true, Bool.or_false, eB, n2, D.put, D.cells, D.size, D.sizeL, modeOf, noPtrs, List.length_map, sub_agt, sub_agf, sub_sc, sub_ls, isAg_ag, isAg_sc, isAg_ls, encE.sub, eE_size, eE_isAg, go_sem, eI, ↓reduceIte, Nat.reduceEqDiff, Nat.reduceAdd, Nat.reduceLeDiff, Nat.reduceMul, Nat.reduceBEq, Nat.reduceBneDiff, Nat.reduceLT, Nat.reduceSub, Int.ofNat_lt, Int.natCast_nonneg]
  cases bl
  ·have h4 : ((atE e xs false).2.1 && !condE r) = false := by simp [hat]
   simp +contextual -implicitDefEqProofs only [bne, Bool.not_true, Bool.not_false, Bool.true_and, Bool.false_and, Bool.and_true, Bool.and_false, Bool.true_or, Bool.false_or, Bool.or_true, Bool.or_false, eB, D.put, D.cells, D.size, D.sizeL, modeOf, noPtrs, List.length_map, sub_agt, sub_agf, sub_sc, sub_ls, isAg_ag, isAg_sc, isAg_ls, encE.sub, eE_size, eE_isAg, go_sem, eI, ↓reduceIte, Nat.reduceEqDiff, Nat.reduceAdd, Nat.reduceLeDiff, Nat.reduceMul, Nat.reduceBEq, Nat.reduceBneDiff, Nat.reduceLT, Nat.reduceSub, Int.ofNat_lt, Int.natCast_nonneg]
   refine callQ_self (ds := [eE e, .ls nn 1 (xs.map eI), eE r]) (by rfl) (hc3 nn xs r hr0 e hf) ?_
   cases n1 : (eE (putAt xs e r)).noPtr
   all_goals
    simp +contextual -implicitDefEqProofs only [n1, bne, Bool.not_true, Bool.not_false, Bool.true_and, Bool.false_and, Bool.and_true, Bool.and_false, Bool.true_or, Bool.false_or, Bool.or_true, Bool.or_false, eB, D.put, D.cells, D.size, D.sizeL, modeOf, noPtrs, List.length_map, sub_agt, sub_agf, sub_sc, sub_ls, isAg_ag, isAg_sc, isAg_ls, encE.sub, eE_size, eE_isAg, go_sem, eI, ↓reduceIte, Nat.reduceEqDiff, Nat.reduceAdd, Nat.reduceLeDiff, Nat.reduceMul, Nat.reduceBEq, Nat.reduceBneDiff, Nat.reduceLT, Nat.reduceSub, Int.ofNat_lt, Int.natCast_nonneg]
    refine callQ_self (ds := [eG g0, eE (putAt xs e r)]) (by first | rfl | (show some [eG g0, D.sub (eE (putAt xs e r)) 0 3 true] = _; rw [encE.sub])) (hc4 g0 (putAt xs e r)) ?_
    cases ho : okE g0 (putAt xs e r)
    ·have et : replM g0 e xs r = (E0, 3) := by simp [replM, hat, h4, ho]
     rw [et]
     simp +contextual -implicitDefEqProofs only [bne, Bool.not_true, Bool.not_false, Bool.true_and, Bool.false_and, Bool.and_true, Bool.and_false, Bool.true_or, Bool.false_or, Bool.or_true, Bool.or_false, eB, eE_E0, D.put, D.cells, D.size, D.sizeL, modeOf, noPtrs, List.length_map, sub_agt, sub_agf, sub_sc, sub_ls, isAg_ag, isAg_sc, isAg_ls, encE.sub, eE_size, eE_isAg, go_sem, eI, ↓reduceIte, Nat.reduceEqDiff, Nat.reduceAdd, Nat.reduceLeDiff, Nat.reduceMul, Nat.reduceBEq, Nat.reduceBneDiff, Nat.reduceLT, Nat.reduceSub, Int.ofNat_lt, Int.natCast_nonneg]
    ·have et : replM g0 e xs r = (putAt xs e r, 0) := by simp [replM, hat, h4, ho]
     rw [et]
     simp +contextual -implicitDefEqProofs only [n1, bne, Bool.not_true, Bool.not_false, Bool.true_and, Bool.false_and, Bool.and_true, Bool.and_false, Bool.true_or, Bool.false_or, Bool.or_true, Bool.or_false, eB, eE_E0, D.put, D.cells, D.size, D.sizeL, modeOf, noPtrs, List.length_map, sub_agt, sub_agf, sub_sc, sub_ls, isAg_ag, isAg_sc, isAg_ls, encE.sub, eE_size, eE_isAg, go_sem, eI, ↓reduceIte, Nat.reduceEqDiff, Nat.reduceAdd, Nat.reduceLeDiff, Nat.reduceMul, Nat.reduceBEq, Nat.reduceBneDiff, Nat.reduceLT, Nat.reduceSub, Int.ofNat_lt, Int.natCast_nonneg]
  ·simp +contextual -implicitDefEqProofs only [bne, Bool.not_true, Bool.not_false, Bool.true_and, Bool.false_and, Bool.and_true, Bool.and_false, Bool.true_or, Bool.false_or, Bool.or_true, Bool.or_false, eB, D.put, D.cells, D.size, D.sizeL, modeOf, noPtrs, List.length_map, sub_agt, sub_agf, sub_sc, sub_ls, isAg_ag, isAg_sc, isAg_ls, encE.sub, eE_size, eE_isAg, go_sem, eI, ↓reduceIte, Nat.reduceEqDiff, Nat.reduceAdd, Nat.reduceLeDiff, Nat.reduceMul, Nat.reduceBEq, Nat.reduceBneDiff, Nat.reduceLT, Nat.reduceSub, Int.ofNat_lt, Int.natCast_nonneg]
   refine callQ_self (ds := [eE r]) (by rfl) (hc2 r) ?_
   cases hcr : condE r
   ·have et : replM g0 e xs r = (E0, 4) := by simp [replM, hat, hcr]
    rw [et]
    simp +contextual -implicitDefEqProofs only [bne, Bool.not_true, Bool.not_false, Bool.true_and, Bool.false_and, Bool.and_true, Bool.and_false, Bool.true_or, Bool.false_or, Bool.or_true, Bool.or_false, eB, eE_E0, D.put, D.cells, D.size, D.sizeL, modeOf, noPtrs, List.length_map, sub_agt, sub_agf, sub_sc, sub_ls, isAg_ag, isAg_sc, isAg_ls, encE.sub, eE_size, eE_isAg, go_sem, eI, ↓reduceIte, Nat.reduceEqDiff, Nat.reduceAdd, Nat.reduceLeDiff, Nat.reduceMul, Nat.reduceBEq, Nat.reduceBneDiff, Nat.reduceLT, Nat.reduceSub, Int.ofNat_lt, Int.natCast_nonneg]
   ·have h4 : ((atE e xs false).2.1 && !condE r) = false := by simp [hcr]
    simp +contextual -implicitDefEqProofs only [bne, Bool.not_true, Bool.not_false, Bool.true_and, Bool.false_and, Bool.and_true, Bool.and_false, Bool.true_or, Bool.false_or, Bool.or_true, Bool.or_false, eB, D.put, D.cells, D.size, D.sizeL, modeOf, noPtrs, List.length_map, sub_agt, sub_agf, sub_sc, sub_ls, isAg_ag, isAg_sc, isAg_ls, encE.sub, eE_size, eE_isAg, go_sem, eI, ↓reduceIte, Nat.reduceEqDiff, Nat.reduceAdd, Nat.reduceLeDiff, Nat.reduceMul, Nat.reduceBEq, Nat.reduceBneDiff, Nat.reduceLT, Nat.reduceSub, Int.ofNat_lt, Int.natCast_nonneg]
    refine callQ_self (ds := [eE e, .ls nn 1 (xs.map eI), eE r]) (by rfl) (hc3 nn xs r hr0 e hf) ?_
    cases n1 : (eE (putAt xs e r)).noPtr
    all_goals
     simp +contextual -implicitDefEqProofs only [n1, bne, Bool.not_true, Bool.not_false, Bool.true_and, Bool.false_and, Bool.and_true, Bool.and_false, Bool.true_or, Bool.false_or, Bool.or_true, Bool.or_false, eB, D.put, D.cells, D.size, D.sizeL, modeOf, noPtrs, List.length_map, sub_agt, sub_agf, sub_sc, sub_ls, isAg_ag, isAg_sc, isAg_ls, encE.sub, eE_size, eE_isAg, go_sem, eI, ↓reduceIte, Nat.reduceEqDiff, Nat.reduceAdd, Nat.reduceLeDiff, Nat.reduceMul, Nat.reduceBEq, Nat.reduceBneDiff, Nat.reduceLT, Nat.reduceSub, Int.ofNat_lt, Int.natCast_nonneg]
     refine callQ_self (ds := [eG g0, eE (putAt xs e r)]) (by first | rfl | (show some [eG g0, D.sub (eE (putAt xs e r)) 0 3 true] = _; rw [encE.sub])) (hc4 g0 (putAt xs e r)) ?_
     cases ho : okE g0 (putAt xs e r)
     ·have et : replM g0 e xs r = (E0, 3) := by simp [replM, hat, h4, ho, hcr]
      rw [et]
      simp +contextual -implicitDefEqProofs only [bne, Bool.not_true, Bool.not_false, Bool.true_and, Bool.false_and, Bool.and_true, Bool.and_false, Bool.true_or, Bool.false_or, Bool.or_true, Bool.or_false, eB, eE_E0, D.put, D.cells, D.size, D.sizeL, modeOf, noPtrs, List.length_map, sub_agt, sub_agf, sub_sc, sub_ls, isAg_ag, isAg_sc, isAg_ls, encE.sub, eE_size, eE_isAg, go_sem, eI, ↓reduceIte, Nat.reduceEqDiff, Nat.reduceAdd, Nat.reduceLeDiff, Nat.reduceMul, Nat.reduceBEq, Nat.reduceBneDiff, Nat.reduceLT, Nat.reduceSub, Int.ofNat_lt, Int.natCast_nonneg]
     ·have et : replM g0 e xs r = (putAt xs e r, 0) := by simp [replM, hat, h4, ho, hcr]
      rw [et]
      simp +contextual -implicitDefEqProofs only [n1, bne, Bool.not_true, Bool.not_false, Bool.true_and, Bool.false_and, Bool.and_true, Bool.and_false, Bool.true_or, Bool.false_or, Bool.or_true, Bool.or_false, eB, eE_E0, D.put, D.cells, D.size, D.sizeL, modeOf, noPtrs, List.length_map, sub_agt, sub_agf, sub_sc, sub_ls, isAg_ag, isAg_sc, isAg_ls, encE.sub, eE_size, eE_isAg, go_sem, eI, ↓reduceIte, Nat.reduceEqDiff, Nat.reduceAdd, Nat.reduceLeDiff, Nat.reduceMul, Nat.reduceBEq, Nat.reduceBneDiff, Nat.reduceLT, Nat.reduceSub, Int.ofNat_lt, Int.natCast_nonneg]

def k_imReplace (f1 f2 : Nat) : RC := (.seq (.reg false [⟨none, .box 4 2 (.t 0)⟩, ⟨none, .box 5 3 (.t 1)⟩, ⟨none, .box 7 3 (.t 3)⟩, ⟨none, .zer 8 3 (.ag [(.sc (.int .i64 0)), (.sc (.int .i64 0)), (.ls (some true) 3 [])])⟩, ⟨none, .mv 9 (.c (.sc (.int .i64 0)))⟩]) ((.seq ((.seq (.reg false [⟨none, .ld 10 true 2 (.t 4)⟩, ⟨none, .ld 11 true 3 (.t 5)⟩, ⟨none, .ld 12 true 3 (.t 7)⟩, ⟨none, .bs 13 3 (.ag [(.sc (.int .i64 0)), (.sc (.int .i64 0)), (.ls (some true) 3 [])]) 2 [(0, (.t 11)), (1, (.t 12))]⟩, ⟨none, .call (some 14) f1 [(.t 10), (.t 13)]⟩, ⟨none, .un 15 .not (.t 14)⟩]) (.cond (.t 15) ((.seq (.reg false [⟨none, .bld 16 (.ag [(.sc (.int .i64 0)), (.sc (.int .i64 0)), (.ls (some true) 3 [])]) []⟩, ⟨none, .st 3 (.t 8) (.t 16)⟩, ⟨none, .mv 9 (.c (.sc (.int .i64 1)))⟩]) (.ret))) (.skip)))) ((.seq (.reg false [⟨none, .ld 17 true 2 (.t 4)⟩, ⟨none, .ld 18 true 3 (.t 5)⟩, ⟨none, .mv 19 (.t 2)⟩, ⟨none, .ld 20 true 3 (.t 7)⟩, ⟨none, .call (some 21) f2 [(.t 17), (.t 18), (.t 19), (.t 20)]⟩, ⟨none, .ext 22 (.t 21) 0⟩, ⟨none, .ext 23 (.t 21) 1⟩, ⟨none, .st 3 (.t 8) (.t 22)⟩, ⟨none, .mv 9 (.t 23)⟩]) (.ret))))))
def K_imReplace (P : Program) (fno : Nat) : Prop := ∀ (g0 : Int × Int) (e : Ex) (nn : Option Bool) (xs : List Int) (r : Ex) (hf : fitE e) (hr0 : fitE r), AF P fno [eG g0, eE e, .ls nn 1 (xs.map eI), eE r] (.tup ([.own (eE (replT g0 e xs r).1), .own (eI (replT g0 e xs r).2)]))
theorem a_imReplace {P : Program} (hm : P.follows .mixedOrders = true) {g f1 f2 : Nat} (hr : resF P g = some (24, k_imReplace f1 f2, [.c 8 3 true, .t 9])) (hc1 : K_validExprs P f1) (hc2 : K_imReplaceAt P f2) : K_imReplace P g := by
 intro g0 e nn xs r hf hr0
 refine af_of_res hr hm rfl fun hb => ?_
 have hv := hc1 g0 (some false, [e, r])
 rw [show (okG g0 && [e, r].all (okE g0)) = (okG g0 && (okE g0 e && okE g0 r)) by simp] at hv
 simp +contextual -implicitDefEqProofs only [k_imReplace, eG, D.put, D.cells, D.size, D.sizeL, modeOf, noPtrs, List.length_map, sub_agt, sub_agf, sub_sc, sub_ls, isAg_ag, isAg_sc, isAg_ls, encE.sub, eE_size, eE_isAg, go_sem, eI, eB, ↓reduceIte, Nat.reduceEqDiff, Nat.reduceAdd, Nat.reduceLeDiff, Nat.reduceMul, Nat.reduceBEq, Nat.reduceBneDiff, Nat.reduceLT, Nat.reduceSub, Int.ofNat_lt, Int.natCast_nonneg]
 refine ⟨by decide, callQ_self (ds := [eG g0, eS 3 eE (some false, [e, r])]) (args_vbE (by rfl)) hv ?_⟩
 cases ho : (okG g0 && (okE g0 e && okE g0 r))
 ·have et : replT g0 e xs r = (E0, 1) := by simp only [replT, ho]; rfl
  rw [et]
  simp +contextual -implicitDefEqProofs only [bne, Bool.not_true, Bool.not_false, Bool.true_and, Bool.false_and, Bool.and_true, Bool.and_false, Bool.true_or, Bool.false_or, Bool.or_true, Bool.or_false, eB, eE_E0, D.put, D.cells, D.size, D.sizeL, modeOf, noPtrs, List.length_map, sub_agt, sub_agf, sub_sc, sub_ls, isAg_ag, isAg_sc, isAg_ls, encE.sub, eE_size, eE_isAg, go_sem, eI, ↓reduceIte, Nat.reduceEqDiff, Nat.reduceAdd, Nat.reduceLeDiff, Nat.reduceMul, Nat.reduceBEq, Nat.reduceBneDiff, Nat.reduceLT, Nat.reduceSub, Int.ofNat_lt, Int.natCast_nonneg]
 ·have et : replT g0 e xs r = replM g0 e xs r := by simp only [replT, ho, if_true]
  rw [et]
  simp +contextual -implicitDefEqProofs only [bne, Bool.not_true, Bool.not_false, Bool.true_and, Bool.false_and, Bool.and_true, Bool.and_false, Bool.true_or, Bool.false_or, Bool.or_true, Bool.or_false, eB, D.put, D.cells, D.size, D.sizeL, modeOf, noPtrs, List.length_map, sub_agt, sub_agf, sub_sc, sub_ls, isAg_ag, isAg_sc, isAg_ls, encE.sub, eE_size, eE_isAg, go_sem, eI, ↓reduceIte, Nat.reduceEqDiff, Nat.reduceAdd, Nat.reduceLeDiff, Nat.reduceMul, Nat.reduceBEq, Nat.reduceBneDiff, Nat.reduceLT, Nat.reduceSub, Int.ofNat_lt, Int.natCast_nonneg]
  refine callQ_self (ds := [eG g0, eE e, .ls nn 1 (xs.map eI), eE r]) (by rfl) (hc2 g0 e nn xs r hf hr0) ?_
  cases n1 : (eE (replM g0 e xs r).1).noPtr
  all_goals
   simp +contextual -implicitDefEqProofs only [n1, bne, Bool.not_true, Bool.not_false, Bool.true_and, Bool.false_and, Bool.and_true, Bool.and_false, Bool.true_or, Bool.false_or, Bool.or_true, Bool.or_false, eB, D.put, D.cells, D.size, D.sizeL, modeOf, noPtrs, List.length_map, sub_agt, sub_agf, sub_sc, sub_ls, isAg_ag, isAg_sc, isAg_ls, encE.sub, eE_size, eE_isAg, go_sem, eI, ↓reduceIte, Nat.reduceEqDiff, Nat.reduceAdd, Nat.reduceLeDiff, Nat.reduceMul, Nat.reduceBEq, Nat.reduceBneDiff, Nat.reduceLT, Nat.reduceSub, Int.ofNat_lt, Int.natCast_nonneg]
end Go.Ax
