/- Contracts of functions of the seat, proved over the engine. No condition. -/
import Derived.Test.YtjnghfepojipiaaXxD
import Derived.Test.YtjnghfepojipiaaEnH
import Derived.Sort.Grow
import Derived.Shelf.Spec.SlicesGrow
set_option linter.unusedSimpArgs false
set_option linter.unusedVariables false
set_option linter.unnecessarySimpa false
namespace Go.Ax
set_option maxRecDepth 20000
set_option maxHeartbeats 4000000

def k_imJoinModels (f1 f2 f3 f4 : Nat) : RC := (.seq (.reg false [⟨none, .box 2 5 (.t 0)⟩, ⟨none, .box 3 5 (.t 1)⟩, ⟨none, .zer 4 5 (.ag [(.sc (.int .i64 0)), (.sc (.int .i64 0)), (.sc (.int .i64 0)), (.ls (some true) 1 []), (.ls (some true) 1 [])])⟩, ⟨none, .mv 5 (.c (.sc (.int .i64 0)))⟩]) ((.seq ((.seq (.reg false [⟨none, .ld 10 true 5 (.t 2)⟩, ⟨none, .call (some 11) f1 [(.t 10)]⟩, ⟨none, .un 12 .not (.t 11)⟩, ⟨none, .mv 13 (.t 12)⟩, ⟨some (13, false), .ld 14 true 5 (.t 3)⟩, ⟨some (13, false), .call (some 15) f1 [(.t 14)]⟩, ⟨some (13, false), .un 16 .not (.t 15)⟩, ⟨none, .pick 17 (.t 13) (.c (.sc (.bool true))) (.t 16)⟩]) (.cond (.t 17) ((.seq (.reg false [⟨none, .bld 18 (.ag [(.sc (.int .i64 0)), (.sc (.int .i64 0)), (.sc (.int .i64 0)), (.ls (some true) 1 []), (.ls (some true) 1 [])]) []⟩, ⟨none, .st 5 (.t 4) (.t 18)⟩, ⟨none, .mv 5 (.c (.sc (.int .i64 1)))⟩]) (.ret))) (.skip)))) ((.seq ((.seq (.reg false [⟨none, .fa 19 0 (.t 2)⟩, ⟨none, .ld 20 true 2 (.t 19)⟩, ⟨none, .fa 21 0 (.t 3)⟩, ⟨none, .ld 22 true 2 (.t 21)⟩, ⟨none, .ceq 23 true 2 (.t 20) (.t 22)⟩]) (.cond (.t 23) ((.seq (.reg false [⟨none, .bld 24 (.ag [(.sc (.int .i64 0)), (.sc (.int .i64 0)), (.sc (.int .i64 0)), (.ls (some true) 1 []), (.ls (some true) 1 [])]) []⟩, ⟨none, .st 5 (.t 4) (.t 24)⟩, ⟨none, .mv 5 (.c (.sc (.int .i64 2)))⟩]) (.ret))) (.skip)))) ((.seq (.reg false [⟨none, .fa 25 2 (.t 2)⟩, ⟨none, .ld 26 false 1 (.t 25)⟩, ⟨none, .fa 27 2 (.t 3)⟩, ⟨none, .ld 28 false 1 (.t 27)⟩, ⟨none, .bin 29 .add (.t 26) (.t 28)⟩, ⟨none, .mv 6 (.t 29)⟩]) ((.seq ((.seq (.reg false [⟨none, .mv 30 (.t 6)⟩, ⟨none, .bin 31 .gtr (.t 30) (.c (.sc (.int .i64 8)))⟩]) (.cond (.t 31) ((.seq (.reg false [⟨none, .bld 32 (.ag [(.sc (.int .i64 0)), (.sc (.int .i64 0)), (.sc (.int .i64 0)), (.ls (some true) 1 []), (.ls (some true) 1 [])]) []⟩, ⟨none, .st 5 (.t 4) (.t 32)⟩, ⟨none, .mv 5 (.c (.sc (.int .i64 3)))⟩]) (.ret))) (.skip)))) ((.seq (.reg false [⟨none, .fa 33 0 (.t 2)⟩, ⟨none, .ld 34 true 2 (.t 33)⟩, ⟨none, .mv 35 (.t 6)⟩, ⟨none, .bld 36 (.ag [(.sc (.int .i64 0)), (.sc (.int .i64 0)), (.sc (.int .i64 0)), (.ls (some true) 1 []), (.ls (some true) 1 [])]) [(0, 2, (.t 34)), (2, 1, (.t 35))]⟩, ⟨none, .zer 7 5 (.ag [(.sc (.int .i64 0)), (.sc (.int .i64 0)), (.sc (.int .i64 0)), (.ls (some true) 1 []), (.ls (some true) 1 [])])⟩, ⟨none, .st 5 (.t 7) (.t 36)⟩]) ((.seq ((.seq (.reg false [⟨none, .fa 37 3 (.t 2)⟩, ⟨none, .ld 38 false 1 (.t 37)⟩, ⟨none, .len 39 (.t 38)⟩, ⟨none, .mv 40 (.c (.sc (.int .i64 0)))⟩]) (.blk 0 (.loop ((.seq (.reg false [⟨none, .bin 41 .lss (.t 40) (.t 39)⟩]) ((.seq (.cond (.t 41) (.skip) (.exit 0)) ((.seq (.blk 1 ((.seq (.reg false [⟨none, .mv 42 (.t 40)⟩, ⟨none, .mv 8 (.t 42)⟩]) (.reg true [⟨none, .fa 43 3 (.t 7)⟩, ⟨none, .ld 44 false 1 (.t 43)⟩, ⟨none, .fa 45 3 (.t 2)⟩, ⟨none, .ld 46 false 1 (.t 45)⟩, ⟨none, .mv 47 (.t 8)⟩, ⟨none, .ia 48 1 (.t 46) (.t 47)⟩, ⟨none, .ld 49 false 1 (.t 48)⟩, ⟨none, .fa 50 3 (.t 3)⟩, ⟨none, .ld 51 false 1 (.t 50)⟩, ⟨none, .mv 52 (.t 8)⟩, ⟨none, .ia 53 1 (.t 51) (.t 52)⟩, ⟨none, .ld 54 false 1 (.t 53)⟩, ⟨none, .bs 55 1 (.ls (some true) 1 []) 2 [(0, (.t 49)), (1, (.t 54))]⟩, ⟨none, .call (some 56) f2 [(.t 55)]⟩, ⟨none, .bs 57 1 (.ls (some true) 1 []) 1 [(0, (.t 56))]⟩, ⟨none, .app 58 1 24 (.t 44) (.t 57)⟩, ⟨none, .fa 59 3 (.t 7)⟩, ⟨none, .st 1 (.t 59) (.t 58)⟩])))) (.reg false [⟨none, .bin 60 .add (.t 40) (.c (.sc (.int .i64 1)))⟩, ⟨none, .mv 40 (.t 60)⟩]))))))))))) ((.seq ((.seq (.reg false [⟨none, .fa 61 4 (.t 2)⟩, ⟨none, .ld 62 false 1 (.t 61)⟩, ⟨none, .len 63 (.t 62)⟩, ⟨none, .mv 64 (.c (.sc (.int .i64 0)))⟩]) (.blk 2 (.loop ((.seq (.reg false [⟨none, .bin 65 .lss (.t 64) (.t 63)⟩]) ((.seq (.cond (.t 65) (.skip) (.exit 2)) ((.seq (.blk 3 ((.seq (.reg false [⟨none, .mv 66 (.t 64)⟩, ⟨none, .zer 9 1 (.sc (.int .i64 0))⟩, ⟨none, .st 1 (.t 9) (.t 66)⟩]) (.reg true [⟨none, .fa 67 4 (.t 7)⟩, ⟨none, .ld 68 false 1 (.t 67)⟩, ⟨none, .mv 69 (.t 6)⟩, ⟨none, .mkf 70 f4 [(.t 2), (.t 9), (.t 3)]⟩, ⟨none, .call (some 71) f3 [(.t 69), (.t 70)]⟩, ⟨none, .bs 72 1 (.ls (some true) 1 []) 1 [(0, (.t 71))]⟩, ⟨none, .app 73 1 24 (.t 68) (.t 72)⟩, ⟨none, .fa 74 4 (.t 7)⟩, ⟨none, .st 1 (.t 74) (.t 73)⟩])))) (.reg false [⟨none, .bin 75 .add (.t 64) (.c (.sc (.int .i64 1)))⟩, ⟨none, .mv 64 (.t 75)⟩]))))))))))) ((.seq (.reg false [⟨none, .ld 76 true 5 (.t 7)⟩, ⟨none, .st 5 (.t 4) (.t 76)⟩, ⟨none, .mv 5 (.c (.sc (.int .i64 0)))⟩]) (.ret))))))))))))))))))
def K_imJoinModels (P : Program) (fno : Nat) : Prop := ∀ (a b : Mo), AF P fno [eM a, eM b] (.tup ([.own (eM (joinS a b).1), .own (eI (joinS a b).2)]))
theorem a_imJoinModels {P : Program} (hm : P.follows .mixedOrders = true) {g f1 f2 f3 f4 : Nat} (hr : resF P g = some (77, k_imJoinModels f1 f2 f3 f4, [.c 4 5 true, .t 5])) (hc1 : K_validModel P f1) (hc2 : K_concatB P f2) (hc3 : K_tableB P f3) (hc4 : K_joinModels1 P f4) : K_imJoinModels P g := by
 intro a b
 obtain ⟨⟨g1, g2⟩, pa, Ta, Aa⟩ := a
 obtain ⟨⟨h1, h2⟩, pb, Tb, Ab⟩ := b
 refine af_of_res hr hm rfl fun hb => ?_
 simp +contextual -implicitDefEqProofs only [k_imJoinModels, at0, D.size, D.sizeL, D.isAg, eM, eS, eI, D.sub, bE, bne, bN, bU, go_sem, ↓reduceIte, Nat.reduceEqDiff, Nat.reduceAdd, Nat.reduceLeDiff, Nat.reduceBEq, Nat.reduceLT]
 refine callQ_self (ds := [eM ((g1, g2), pa, Ta, Aa)]) (by rfl) (hc1 ((g1, g2), pa, Ta, Aa)) ?_
 cases ho : okMo ((g1, g2), pa, Ta, Aa)
 ·rw [show joinS ((g1, g2), pa, Ta, Aa) ((h1, h2), pb, Tb, Ab) = (zeroMo, 1) by simp [joinS, ho]]
  simp +contextual -implicitDefEqProofs only [zeroMo, at0, D.put, D.cells, D.size, D.sizeL, D.isAg, modeOf, noPtrs, eB, D.sub, bE, bne, bN, bU, Bool.and_false, Bool.or_true, Bool.or_false, go_sem, ↓reduceIte, Nat.reduceEqDiff, Nat.reduceAdd, Nat.reduceLeDiff, Nat.reduceBEq, Nat.reduceLT]
 simp +contextual -implicitDefEqProofs only [at0, D.isAg, eB, D.sub, bT, go_sem, ↓reduceIte, Nat.reduceEqDiff, Nat.reduceLeDiff]
 refine callQ_self (ds := [eM ((h1, h2), pb, Tb, Ab)]) (by rfl) (hc1 ((h1, h2), pb, Tb, Ab)) ?_
 cases ho2 : okMo ((h1, h2), pb, Tb, Ab)
 ·rw [show joinS ((g1, g2), pa, Ta, Aa) ((h1, h2), pb, Tb, Ab) = (zeroMo, 1) by simp [joinS, ho, ho2]]
  simp +contextual -implicitDefEqProofs only [zeroMo, at0, D.put, D.cells, D.size, D.sizeL, D.isAg, modeOf, noPtrs, eB, D.sub, bE, bne, bN, bU, Bool.and_false, Bool.or_true, Bool.or_false, go_sem, ↓reduceIte, Nat.reduceEqDiff, Nat.reduceAdd, Nat.reduceLeDiff, Nat.reduceBEq, Nat.reduceLT]
 simp +contextual -implicitDefEqProofs only [at0, D.put, D.cells, D.size, D.sizeL, D.isAg, modeOf, noPtrs, lM, eB, D.sub, bE, bne, bT, bN, bU, Bool.and_false, Bool.or_true, Bool.or_false, go_sem, ↓reduceIte, Nat.reduceEqDiff, Nat.reduceAdd, Nat.reduceLeDiff, Nat.reduceBEq, Nat.reduceLT, Nat.reduceSub]
 cases hg : (g1 == h1 && g2 == h2)
 ·rw [show joinS ((g1, g2), pa, Ta, Aa) ((h1, h2), pb, Tb, Ab) = (zeroMo, 2) by simp [joinS, ho, ho2, hg]]
  simp +contextual -implicitDefEqProofs only [zeroMo, bN, go_sem]
 simp only [bA, beq_iff_eq] at hg
 obtain ⟨rfl, rfl⟩ := hg
 obtain ⟨n1, hA⟩ := okMo_ok ho
 obtain ⟨n2, hB⟩ := okMo_ok ho2
 obtain rfl : pa = n1 := hA.pts
 obtain rfl : pb = n2 := hB.pts
 have a8 := hA.n8
 have b8 := hB.n8
 have a1 := hA.n1
 have b1 := hB.n1
 have tl := hA.tl
 have tlb := hB.tl
 have al := hA.al
 have alb := hB.al
 have hG := hA.g
 have tra := hA.tr
 have trb := hB.tr
 have asa := hA.asq
 have asb := hB.asq
 simp only [okG, bA, isIn_iff'] at tl tlb al alb hG tra trb asa asb
 have wn : IntKind.i64.wrap ((n1 : Int) + (n2 : Int)) = ((n1 + n2 : Nat) : Int) := by rw [wrap_i64 (by omega) (by omega)]; omega
 simp +contextual -implicitDefEqProofs only [bT, go_sem]
 by_cases h8 : ((n1 + n2 : Nat) : Int) > 8
 ·rw [show joinS ((g1, g2), (n1 : Int), Ta, Aa) ((g1, g2), (n2 : Int), Tb, Ab) = (zeroMo, 3) by
   have : (n1 : Int) + (n2 : Int) > 8 := by omega
   simp [joinS, ho, ho2, this]]
  simp +contextual -implicitDefEqProofs only [zeroMo, wn, h8, go_sem]
 have n12 : n1 + n2 ≤ 8 := by omega
 rw [show joinS ((g1, g2), (n1 : Int), Ta, Aa) ((g1, g2), (n2 : Int), Tb, Ab) = (joinMo (g1, g2) n1 (n1 + n2) Ta.2 Tb.2 Aa.2 Ab.2, 0) by
  have : ¬ ((n1 : Int) + (n2 : Int) > 8) := by omega
  simp [joinS, ho, ho2, this]]
 have hS := join_eq (g := (g1, g2)) (n1 := n1) (n := n1 + n2) (T1 := Ta.2) (T2 := Tb.2) (A1 := Aa.2) (A2 := Ab.2)
 simp only [eM, eS, eI] at hS
 simp +contextual -implicitDefEqProofs only [h8, wn, go_sem]
 refine vc_onU (α := Nat) [8, 40, 41, 42, 43, 44, 45, 46, 47, 48, 49, 50, 51, 52, 53, 54, 55, 56, 57, 58, 59, 60] (fun i => [(40, .im none (.sc (.int .i64 i)))]) (fun i => [(7, .ar true (some false) 5 [.ag [.sc (.int .i64 g1), .sc (.int .i64 g2), .sc (.int .i64 (n1 + n2 : Nat)), .ls (nnN i) 1 (tabL i (jRow Ta.2 Tb.2)), .ls (some true) 1 []]]), (4, .ar true (some false) 5 [.ag [.sc (.int .i64 0), .sc (.int .i64 0), .sc (.int .i64 0), .ls (some true) 1 [], .ls (some true) 1 []]]), (3, .ar false (some false) 5 [.ag [.sc (.int .i64 g1), .sc (.int .i64 g2), .sc (.int .i64 n2), .ls Tb.1 1 (Tb.2.map (eS 1 eB)), .ls Ab.1 1 (Ab.2.map (eS 1 (eS 1 eB)))]]), (2, .ar false (some false) 5 [.ag [.sc (.int .i64 g1), .sc (.int .i64 g2), .sc (.int .i64 n1), .ls Ta.1 1 (Ta.2.map (eS 1 eB)), .ls Aa.1 1 (Aa.2.map (eS 1 (eS 1 eB)))]])]) (fun i => i ≤ Ta.2.length) (fun i => Ta.2.length - i) 0 (Ent.to [] (by simp only [go_sem]; rfl) rfl (by simp [nnN, tabL_at0]) (by rfl) (by simp only [subEnv, go_sem, ↓reduceIte, Nat.reduceEqDiff, keep, memN] <;> simp)) (Nat.zero_le _) ?_
 intro i hi0
 by_cases hi : i < Ta.2.length
 ·have hi2 : i < Tb.2.length := by omega
  have e1 := at_mapD (f := eS 1 eB) (d := (none, [])) hi
  have e2 := at_mapD (f := eS 1 eB) (d := (none, [])) hi2
  have r1 : (rw_ Ta.2 i).length = n1 := tra _ (getD_mem (d := (none, [])) hi)
  have r2 : (rw_ Tb.2 i).length = n2 := trb _ (getD_mem (d := (none, [])) hi2)
  have ht : totB [Ta.2.getD i (none, []), Tb.2.getD i (none, [])] = n1 + n2 := by
   show (rw_ Ta.2 i).length + ((rw_ Tb.2 i).length + 0) = n1 + n2
   omega
  have hc : (catB [Ta.2.getD i (none, []), Tb.2.getD i (none, [])]).map eB = (rw_ Ta.2 i).map eB ++ (rw_ Tb.2 i).map eB := by
   show (rw_ Ta.2 i ++ (rw_ Tb.2 i ++ [])).map eB = _
   rw [List.append_nil, List.map_append]
  simp +contextual -implicitDefEqProofs only [hi, hi2, e1, e2, at0, D.size, D.isAg, lM, eS, D.sub, bE, bne, bN, bU, go_sem, ↓reduceIte, Nat.reduceEqDiff, Nat.reduceAdd, Nat.reduceLeDiff, Nat.reduceMul, Nat.reduceBEq, Nat.reduceLT, iL, iN]
  refine ⟨by decide, ?_⟩
  refine callQ_self (ds := [.ls (some false) 1 ([Ta.2.getD i (none, []), Tb.2.getD i (none, [])].map (eS 1 eB))]) (by rfl) (hc2 [Ta.2.getD i (none, []), Tb.2.getD i (none, [])] (by simp) (by omega) (by omega)) ?_
  rw [hc]
  simp +contextual -implicitDefEqProofs only [at0, D.put, D.cells, D.size, D.isAg, modeOf, noPtrs, D.sub, bE, bne, bN, Bool.false_and, bU, Bool.or_true, Bool.or_false, go_sem, ↓reduceIte, Nat.reduceEqDiff, Nat.reduceAdd, Nat.reduceLeDiff, Nat.reduceMul, Nat.reduceBEq, Nat.reduceLT]
  refine ⟨rfl, ⟨by rw [tabL_len]; omega, by rw [tabL_len]; unfold maxEl; omega, by simp [D.size]⟩, i + 1, by omega, by omega, ?_⟩
  rw [wrap_i64 (by omega) (by omega)]
  exact Ent.to [55] (by simp only [go_sem, ↓reduceIte, Nat.reduceEqDiff, Nat.reduceBEq]; rfl) rfl (by simp [tabL_succ, jRow, nnN]) (by rfl) (by simp only [subEnv, go_sem, ↓reduceIte, Nat.reduceEqDiff] <;> simp)
 ·obtain rfl : i = Ta.2.length := by omega
  simp +contextual -implicitDefEqProofs only [hi, at0, D.isAg, lM, D.sub, go_sem, ↓reduceIte, Nat.reduceEqDiff, Nat.reduceAdd, Nat.reduceLeDiff, Nat.reduceLT, iL]
  refine vc_onU (α := Nat) [9, 64, 65, 66, 67, 68, 69, 71, 72, 73, 74, 75] (fun i => [(64, .im none (.sc (.int .i64 i)))]) (fun i => [(7, .ar true (some false) 5 [.ag [.sc (.int .i64 g1), .sc (.int .i64 g2), .sc (.int .i64 (n1 + n2 : Nat)), .ls (nnN Ta.2.length) 1 (tabL Ta.2.length (jRow Ta.2 Tb.2)), .ls (nnN i) 1 (tabL i (jTab n1 (n1 + n2) Aa.2 Ab.2))]]), (4, .ar true (some false) 5 [.ag [.sc (.int .i64 0), .sc (.int .i64 0), .sc (.int .i64 0), .ls (some true) 1 [], .ls (some true) 1 []]]), (3, .ar false (some false) 5 [.ag [.sc (.int .i64 g1), .sc (.int .i64 g2), .sc (.int .i64 n2), .ls Tb.1 1 (Tb.2.map (eS 1 eB)), .ls Ab.1 1 (Ab.2.map (eS 1 (eS 1 eB)))]]), (2, .ar false (some false) 5 [.ag [.sc (.int .i64 g1), .sc (.int .i64 g2), .sc (.int .i64 n1), .ls Ta.1 1 (Ta.2.map (eS 1 eB)), .ls Aa.1 1 (Aa.2.map (eS 1 (eS 1 eB)))]])]) (fun i => i ≤ Aa.2.length) (fun i => Aa.2.length - i) 0 (Ent.to [] (by simp only [go_sem]; rfl) rfl (by simp [nnN, tabL_at0]) (by rfl) (by simp only [subEnv, go_sem, ↓reduceIte, Nat.reduceEqDiff, keep, memN] <;> simp)) (Nat.zero_le _) ?_
  intro i hi0
  by_cases hi : i < Aa.2.length
  ·have hi2 : i < Ab.2.length := by omega
   simp +contextual -implicitDefEqProofs only [hi, at0, D.put, D.size, D.isAg, modeOf, noPtrs, D.sub, bne, bN, bU, Bool.or_false, go_sem, ↓reduceIte, Nat.reduceEqDiff, Nat.reduceAdd, Nat.reduceLeDiff, Nat.reduceBEq, Nat.reduceLT, iL]
   refine callQ_self (ds := [eI ((n1 + n2 : Nat) : Int), .fn f4 [.pt (eM ((g1, g2), (n1 : Int), Ta, Aa)) 0, .pt (eI i) 0, .pt (eM ((g1, g2), (n2 : Int), Tb, Ab)) 0]]) (by rfl) (hc3 (n1 + n2) f4 _ (joinR n1 (tb_ Aa.2 i) (tb_ Ab.2 i)) (by omega) (fun x y hx hy => hc4 ((g1, g2), (n1 : Int), Ta, Aa) ((g1, g2), (n2 : Int), Tb, Ab) n1 n2 i x y hA hB hx hy hi hi2)) ?_
   rw [show ((some false, tabL (n1 + n2) fun x => (some false, tabL (n1 + n2) (joinR n1 (tb_ Aa.2 i) (tb_ Ab.2 i) x))) : SL (SL Bool)) = rTab (n1 + n2) (joinR n1 (tb_ Aa.2 i) (tb_ Ab.2 i)) from rfl, rD_eq]
   simp +contextual -implicitDefEqProofs only [at0, D.put, D.cells, D.size, D.isAg, modeOf, noPtrs, D.sub, bE, bne, bN, Bool.true_and, Bool.false_and, bU, Bool.or_true, Bool.or_false, go_sem, ↓reduceIte, Nat.reduceEqDiff, Nat.reduceAdd, Nat.reduceLeDiff, Nat.reduceMul, Nat.reduceBEq, Nat.reduceLT]
   refine ⟨rfl, ⟨by rw [tabL_len]; omega, by rw [tabL_len]; unfold maxEl; omega, by simp [D.size]⟩, i + 1, by omega, by omega, ?_⟩
   rw [wrap_i64 (by omega) (by omega)]
   exact Ent.to [9] (by simp only [go_sem, ↓reduceIte, Nat.reduceEqDiff, Nat.reduceBEq]; rfl) rfl (by simp [tabL_succ, jTab, nnN]) (by rfl) (by simp only [subEnv, go_sem, ↓reduceIte, Nat.reduceEqDiff] <;> simp)
  ·obtain rfl : i = Aa.2.length := by omega
   simp +contextual -implicitDefEqProofs only [hi, at0, D.put, D.size, D.sizeL, D.isAg, modeOf, noPtrs, D.sub, bE, Bool.true_and, bU, Bool.and_false, Bool.or_false, go_sem, ↓reduceIte, Nat.reduceEqDiff, Nat.reduceAdd, Nat.reduceLeDiff, Nat.reduceBEq, Nat.reduceLT, iL]
   exact D.Le.of_eq hS.symm
end Go.Ax
namespace Go.Ax
set_option maxRecDepth 20000
set_option maxHeartbeats 4000000

def oF (G : Int → Int → Int → Int × Int × Int) (s : Int × Int) : Nat → List Int × Int × Int
 | 0 => ([], s)
 | i + 1 => ((((oF G s i).1 ++ [(i : Int)]).set (G ((i : Int) + 1) (oF G s i).2.1 (oF G s i).2.2).1.toNat i).set i (((oF G s i).1 ++ [(i : Int)]).getD (G ((i : Int) + 1) (oF G s i).2.1 (oF G s i).2.2).1.toNat 0), (G ((i : Int) + 1) (oF G s i).2.1 (oF G s i).2.2).2)
theorem oF_bd {P : Program} {f1 : Nat} {nn : Option Bool} {c : List Int} {G : Int → Int → Int → Int × Int × Int} (hG : PickS P f1 nn c G) {s : Int × Int} (h0 : 0 ≤ s.1) (h1 : s.1 ≤ 100000000) : ∀ i : Nat, i ≤ 1000 → s.1 ≤ (oF G s i).2.1 ∧ (oF G s i).2.1 ≤ s.1 + 2 * i ∧ (oF G s i).1.length = i ∧ (oF G s i).1.Perm (ints i)
 | 0, _ => by simp [oF, ints]
 | i + 1, hi => by
  obtain ⟨i1, i2, i3, i4⟩ := oF_bd hG h0 h1 i (by omega)
  obtain ⟨p1, p2, p3, p4, p5, _⟩ := hG ((i : Int) + 1) (oF G s i).2.1 (oF G s i).2.2 (by omega) (by omega)
  simp only [oF]
  refine ⟨by omega, by push_cast; omega, by simp [i3], ?_⟩
  have hx : (G ((i : Int) + 1) (oF G s i).2.1 (oF G s i).2.2).1.toNat ≤ i := by
   rcases Int.lt_or_le 1 ((i : Int) + 1) with h | h
   ·have := p5 h; omega
   ·have := p4 h; omega
  have hs := swap_perm (l := (oF G s i).1) (x := (i : Int)) (a := (G ((i : Int) + 1) (oF G s i).2.1 (oF G s i).2.2).1.toNat) (by omega)
  rw [i3] at hs
  rw [ints_succ]
  exact hs.trans (i4.append_right _)
theorem iD_at {l : List Int} {k : Nat} (h : k < l.length) : D.at (iD l) k = .sc (.int .i64 (l.getD k 0)) := by
 unfold iD
 exact at_mapD (f := eI) (d := 0) h
theorem iD_set {l : List Int} {k : Nat} {v : Int} : (iD l).set k (.sc (.int .i64 v)) = iD (l.set k v) := by
 unfold iD
 rw [List.map_set]; rfl
theorem iD_snoc {l : List Int} {v : Int} : iD l ++ [.sc (.int .i64 v)] = iD (l ++ [v]) := iD_app.symm
def k_l05Order (f1 : Nat) : RC := (.seq (.reg false [⟨none, .mv 4 (.c (.ls (some true) 1 []))⟩]) ((.seq (.reg false [⟨none, .bs 9 1 (.sc (.int .i64 0)) 0 []⟩, ⟨none, .mv 5 (.t 9)⟩]) ((.seq ((.seq (.reg false [⟨none, .mv 6 (.c (.sc (.int .i64 0)))⟩]) (.blk 0 (.loop ((.seq ((.seq (.reg false [⟨none, .mv 10 (.t 6)⟩, ⟨none, .mv 11 (.t 1)⟩, ⟨none, .bin 12 .lss (.t 10) (.t 11)⟩]) (.cond (.t 12) (.skip) (.exit 0)))) ((.seq (.blk 1 ((.seq (.reg false [⟨none, .mv 15 (.t 0)⟩, ⟨none, .mv 16 (.t 6)⟩, ⟨none, .bin 17 .add (.t 16) (.c (.sc (.int .i64 1)))⟩, ⟨none, .wcl (some 18) f1 [(.t 15), (.t 17)]⟩, ⟨none, .mv 7 (.t 18)⟩]) ((.seq (.reg false [⟨none, .mv 19 (.t 5)⟩, ⟨none, .mv 20 (.t 6)⟩, ⟨none, .bs 21 1 (.sc (.int .i64 0)) 1 [(0, (.t 20))]⟩, ⟨none, .app 22 1 8 (.t 19) (.t 21)⟩, ⟨none, .mv 5 (.t 22)⟩]) ((.seq (.reg false [⟨none, .mv 23 (.t 5)⟩, ⟨none, .mv 24 (.t 7)⟩, ⟨none, .ia 25 1 (.t 23) (.t 24)⟩, ⟨none, .ld 26 false 1 (.t 25)⟩, ⟨none, .mv 8 (.t 26)⟩]) ((.seq (.reg false [⟨none, .mv 27 (.t 5)⟩, ⟨none, .mv 28 (.t 7)⟩, ⟨none, .mv 29 (.t 6)⟩, ⟨none, .ia 30 1 (.t 27) (.t 28)⟩, ⟨none, .st 1 (.t 30) (.t 29)⟩]) (.reg false [⟨none, .mv 31 (.t 5)⟩, ⟨none, .mv 32 (.t 6)⟩, ⟨none, .mv 33 (.t 8)⟩, ⟨none, .ia 34 1 (.t 31) (.t 32)⟩, ⟨none, .st 1 (.t 34) (.t 33)⟩])))))))))) (.reg false [⟨none, .mv 13 (.t 6)⟩, ⟨none, .bin 14 .add (.t 13) (.c (.sc (.int .i64 1)))⟩, ⟨none, .mv 6 (.t 14)⟩]))))))))) ((.seq (.reg false [⟨none, .mv 35 (.t 5)⟩, ⟨none, .mv 4 (.t 35)⟩]) (.ret))))))))
def K_l05Order (P : Program) (fno : Nat) : Prop := ∀ (nn : Option Bool) (c : List Int) (a sd : Int) (n : Nat), srcOk c → 0 ≤ a → a ≤ 100000000 → n ≤ 1000 → ∃ a' sd' l, List.Perm l (ints n) ∧ AFW P fno [uS nn c a sd] [.pw 3000000000 0 0, .im none (eI n)] [uS nn c a' sd'] (.own (eS 1 eI (some false, l)))
theorem a_l05Order {P : Program} (hm : P.follows .mixedOrders = true) {g f1 : Nat} (hr : resF P g = some (36, k_l05Order f1, [.t 4])) (hc1 : K_srcPick P f1) : K_l05Order P g := by
 intro nn c a sd n hc h0 h1 hn
 obtain ⟨G, hG⟩ := pick_fun hc1 nn hc
 obtain ⟨b1, b2, b3, b4⟩ := oF_bd hG (s := (a, sd)) h0 h1 n hn
 refine ⟨(oF G (a, sd) n).2.1, (oF G (a, sd) n).2.2, (oF G (a, sd) n).1, b4, ?_⟩
 refine afw_of_res (wv := .no) hr hm rfl rfl rfl fun hb ha => ?_
 simp +contextual -implicitDefEqProofs only [k_l05Order, uS, srcD, eI, eS, bne, bN, bU, go_sem, ↓reduceIte, Nat.reduceAdd, Nat.reduceBEq, Nat.reduceLT]
 refine vc_onU (α := Nat) [5, 6, 7, 8, 9, 10, 11, 12, 13, 14, 15, 16, 17, 18, 19, 20, 21, 22, 23, 24, 25, 26, 27, 28, 29, 30, 31, 32, 33, 34] (fun i => [(6, .im none (.sc (.int .i64 i))), (5, .sm 9 0 i)]) (fun i => [(9, .ar true (some false) 1 (iD (oF G (a, sd) i).1)), (3000000000, .ar false none 3 [.ag [.ls nn 1 (c.map eU), .sc (.int .i64 (oF G (a, sd) i).2.1), .sc (.int .u64 (oF G (a, sd) i).2.2)]])]) (fun i => i ≤ n) (fun i => n - i) 0 (Ent.to [] (by simp only [go_sem]; rfl) rfl (by simp [oF, iD_nil]) (by rfl) (by simp only [subEnv, go_sem, ↓reduceIte, Nat.reduceEqDiff, keep, memN] <;> simp [])) (Nat.zero_le _) ?_
 intro i hi0
 obtain ⟨q1, q2, q3, q4⟩ := oF_bd hG (s := (a, sd)) h0 h1 i (by omega)
 by_cases hi : i < n
 ·have w1 : IntKind.i64.wrap ((i : Int) + 1) = (i : Int) + 1 := wrap_i64 (by omega) (by omega)
  obtain ⟨p1, p2, p3, p4, p5, hP⟩ := hG ((i : Int) + 1) (oF G (a, sd) i).2.1 (oF G (a, sd) i).2.2 (by simp only at q1; omega) (by simp only at q2; omega)
  have hx : (G ((i : Int) + 1) (oF G (a, sd) i).2.1 (oF G (a, sd) i).2.2).1.toNat ≤ i := by
   rcases Int.lt_or_le 1 ((i : Int) + 1) with h | h
   ·have := p5 h; omega
   ·have := p4 h; omega
  have eo : oF G (a, sd) (i + 1) = ((((oF G (a, sd) i).1 ++ [(i : Int)]).set (G ((i : Int) + 1) (oF G (a, sd) i).2.1 (oF G (a, sd) i).2.2).1.toNat i).set i (((oF G (a, sd) i).1 ++ [(i : Int)]).getD (G ((i : Int) + 1) (oF G (a, sd) i).2.1 (oF G (a, sd) i).2.2).1.toNat 0), (G ((i : Int) + 1) (oF G (a, sd) i).2.1 (oF G (a, sd) i).2.2).2) := rfl
  generalize G ((i : Int) + 1) (oF G (a, sd) i).2.1 (oF G (a, sd) i).2.2 = r at *
  obtain ⟨x, r2, r3⟩ := r
  simp only at hx eo p3 hP
  have hx2 : x.toNat < ((oF G (a, sd) i).1 ++ [(i : Int)]).length := by simp; omega
  have hi2 : i < (((oF G (a, sd) i).1 ++ [(i : Int)]).set x.toNat i).length := by simp; omega
  have e1 := iD_at hx2
  have hl : ((oF G (a, sd) i).1 ++ [(i : Int)]).length = i + 1 := by simp; omega
  have hxi : x < (i : Int) + 1 := by omega
  simp +contextual -implicitDefEqProofs only [hi, iL, w1, go_sem, ↓reduceIte, Nat.reduceEqDiff]
  refine wcl_self [3000000000] [] (by rfl) (by rfl) (by rfl) hP rfl (by simp [wOut, outU, uS, srcD, noPtrs, D.noPtr, shWL, AV.shW, posW, shUs, U.shW, St.unit, lu]) ?_
  simp +contextual -implicitDefEqProofs only [uS, srcD, eI, iD_len, q3, iD_snoc, e1, w1, p3, hl, iD_set, List.length_set, Int.toNat_natCast, D.put, D.size, D.isAg, D.sub, modeOf, noPtrs, bne, bN, bU, Bool.or_true, Bool.or_false, go_sem, ↓reduceIte, Nat.reduceEqDiff, Nat.reduceLeDiff, Nat.reduceMul, Nat.reduceBEq, Nat.reduceLT, iL, iN]
  refine ⟨rfl, ⟨by omega, by unfold maxEl; omega, by simp [D.size]⟩, by omega, by omega, by omega, by omega, by omega, i + 1, by omega, by omega, ?_⟩
  exact Ent.to [] (by simp only [go_sem]; rfl) rfl (by simp [eo]) (by rfl) (by simp only [subEnv, go_sem, ↓reduceIte, Nat.reduceEqDiff] <;> simp)
 ·obtain rfl : n = i := by omega
  simp +contextual -implicitDefEqProofs only [hi, iL, go_sem, ↓reduceIte, Nat.reduceEqDiff, Nat.reduceBEq]
  exact ⟨by rw [iD_len, b3], D.Le.refl _⟩

def k_p6Order (f1 f2 : Nat) : RC := (.seq (.reg false [⟨none, .mv 4 (.c (.ls (some true) 1 []))⟩]) ((.seq (.reg false [⟨none, .mv 5 (.t 0)⟩, ⟨none, .call (some 6) f1 [(.t 5)]⟩, ⟨none, .mv 7 (.t 1)⟩, ⟨none, .wcl (some 8) f2 [(.t 6), (.t 7)]⟩, ⟨none, .mv 4 (.t 8)⟩]) (.ret))))
def K_p6Order (P : Program) (fno : Nat) : Prop := ∀ (nn : Option Bool) (c : List Int) (n : Nat), srcOk c → n ≤ 1000 → ∃ l, List.Perm l (ints n) ∧ AF P fno [.ls nn 1 (c.map eU), eI n] (.own (eS 1 eI (some false, l)))
theorem a_p6Order {P : Program} (hm : P.follows .mixedOrders = true) {g f1 f2 : Nat} (hr : resF P g = some (9, k_p6Order f1 f2, [.t 4])) (hc1 : K_l00From P f1) (hc2 : K_l05Order P f2) : K_p6Order P g := by
 intro nn c n hc hn
 obtain ⟨a1, sd1, l, s1, hE⟩ := hc2 nn c 0 0 n hc (by omega) (by omega) hn
 refine ⟨l, s1, ?_⟩
 refine af_of_res hr hm rfl fun hb => ?_
 simp +contextual -implicitDefEqProofs only [k_p6Order, eI, eS, go_sem, ↓reduceIte, Nat.reduceEqDiff, Nat.reduceAdd]
 refine callQ_self ?_ (hc1 nn c) ?_
 ·exact rfl
 simp +contextual -implicitDefEqProofs only [srcD, D.size, D.sizeL, bU, go_sem, ↓reduceIte, Nat.reduceEqDiff, Nat.reduceAdd]
 refine wcl_self [6] [] (by rfl) (by rfl) (by rfl) hE rfl (by simp [wOut, outU, uS, srcD, noPtrs, D.noPtr, shWL, AV.shW, posW, shUs, U.shW, St.unit, lu]) ?_
 simp +contextual -implicitDefEqProofs only [uS, srcD, eS, bne, bN, bU, Bool.or_false, go_sem, ↓reduceIte, Nat.reduceEqDiff, Nat.reduceBEq]
abbrev qRow (x y : SL Bool) : Bool := eqL (fun x y => x == y) x.2 y.2

def k_l05SameRows (f1 : Nat) : RC := (.seq (.reg false [⟨none, .mv 4 (.c (.sc (.bool false)))⟩]) ((.seq ((.seq (.reg false [⟨none, .mv 6 (.t 0)⟩, ⟨none, .len 7 (.t 6)⟩, ⟨none, .mv 8 (.t 1)⟩, ⟨none, .len 9 (.t 8)⟩, ⟨none, .bin 10 .neq (.t 7) (.t 9)⟩]) (.cond (.t 10) ((.seq (.reg false [⟨none, .mv 4 (.c (.sc (.bool false)))⟩]) (.ret))) (.skip)))) ((.seq ((.seq (.reg false [⟨none, .mv 5 (.c (.sc (.int .i64 0)))⟩]) (.blk 0 (.loop ((.seq ((.seq (.reg false [⟨none, .mv 11 (.t 5)⟩, ⟨none, .mv 12 (.t 0)⟩, ⟨none, .len 13 (.t 12)⟩, ⟨none, .bin 14 .lss (.t 11) (.t 13)⟩]) (.cond (.t 14) (.skip) (.exit 0)))) ((.seq (.blk 1 ((.seq (.reg true [⟨none, .mv 17 (.t 0)⟩, ⟨none, .mv 18 (.t 5)⟩, ⟨none, .ia 19 1 (.t 17) (.t 18)⟩, ⟨none, .ld 20 false 1 (.t 19)⟩, ⟨none, .mv 21 (.t 1)⟩, ⟨none, .mv 22 (.t 5)⟩, ⟨none, .ia 23 1 (.t 21) (.t 22)⟩, ⟨none, .ld 24 false 1 (.t 23)⟩, ⟨none, .call (some 25) f1 [(.t 20), (.t 24)]⟩, ⟨none, .un 26 .not (.t 25)⟩]) (.cond (.t 26) ((.seq (.reg false [⟨none, .mv 4 (.c (.sc (.bool false)))⟩]) (.ret))) (.skip))))) (.reg false [⟨none, .mv 15 (.t 5)⟩, ⟨none, .bin 16 .add (.t 15) (.c (.sc (.int .i64 1)))⟩, ⟨none, .mv 5 (.t 16)⟩]))))))))) ((.seq (.reg false [⟨none, .mv 4 (.c (.sc (.bool true)))⟩]) (.ret))))))))
def K_l05SameRows (P : Program) (fno : Nat) : Prop := ∀ (a b : SL (SL Bool)), AF P fno [eS 1 (eS 1 eB) a, eS 1 (eS 1 eB) b] (.own (eB (eqL qRow a.2 b.2)))
theorem a_l05SameRows {P : Program} (hm : P.follows .mixedOrders = true) {g f1 : Nat} (hr : resF P g = some (27, k_l05SameRows f1, [.t 4])) (hc1 : resF P f1 = some (26, cEqB, [.t 4])) : K_l05SameRows P g := by
 intro a b
 exact af_eqC hm (encS eB 1) (show resF P g = some (27, cEqC f1 1 false, [.t 4]) from hr) qRow a b fun x _ y _ => af_eqB hm hc1 x y
theorem eqL_self {α : Type} {q : α → α → Bool} (h : ∀ x, q x x = true) : ∀ l : List α, eqL q l l = true
 | [] => rfl
 | x :: l => by simp only [eqL, h x, eqL_self h l, Bool.and_self]
theorem rows_self (x : SL (SL Bool)) : eqL qRow x.2 x.2 = true := eqL_self (fun y => eqL_self (fun z => by simp) y.2) x.2

def k_spSameModel (f1 : Nat) : RC := (.seq (.reg false [⟨none, .box 2 5 (.t 0)⟩, ⟨none, .box 3 5 (.t 1)⟩, ⟨none, .mv 4 (.c (.sc (.bool false)))⟩]) ((.seq ((.seq (.reg false [⟨none, .fa 6 0 (.t 2)⟩, ⟨none, .ld 7 true 2 (.t 6)⟩, ⟨none, .fa 8 0 (.t 3)⟩, ⟨none, .ld 9 true 2 (.t 8)⟩, ⟨none, .ceq 10 true 2 (.t 7) (.t 9)⟩, ⟨none, .mv 11 (.t 10)⟩, ⟨some (11, false), .fa 12 2 (.t 2)⟩, ⟨some (11, false), .ld 13 false 1 (.t 12)⟩, ⟨some (11, false), .fa 14 2 (.t 3)⟩, ⟨some (11, false), .ld 15 false 1 (.t 14)⟩, ⟨some (11, false), .bin 16 .neq (.t 13) (.t 15)⟩, ⟨none, .pick 17 (.t 11) (.c (.sc (.bool true))) (.t 16)⟩, ⟨none, .mv 18 (.t 17)⟩, ⟨some (18, false), .fa 19 3 (.t 2)⟩, ⟨some (18, false), .ld 20 false 1 (.t 19)⟩, ⟨some (18, false), .fa 21 3 (.t 3)⟩, ⟨some (18, false), .ld 22 false 1 (.t 21)⟩, ⟨some (18, false), .call (some 23) f1 [(.t 20), (.t 22)]⟩, ⟨some (18, false), .un 24 .not (.t 23)⟩, ⟨none, .pick 25 (.t 18) (.c (.sc (.bool true))) (.t 24)⟩, ⟨none, .mv 26 (.t 25)⟩, ⟨some (26, false), .fa 27 4 (.t 2)⟩, ⟨some (26, false), .ld 28 false 1 (.t 27)⟩, ⟨some (26, false), .len 29 (.t 28)⟩, ⟨some (26, false), .fa 30 4 (.t 3)⟩, ⟨some (26, false), .ld 31 false 1 (.t 30)⟩, ⟨some (26, false), .len 32 (.t 31)⟩, ⟨some (26, false), .bin 33 .neq (.t 29) (.t 32)⟩, ⟨none, .pick 34 (.t 26) (.c (.sc (.bool true))) (.t 33)⟩]) (.cond (.t 34) ((.seq (.reg false [⟨none, .mv 4 (.c (.sc (.bool false)))⟩]) (.ret))) (.skip)))) ((.seq ((.seq (.reg false [⟨none, .mv 5 (.c (.sc (.int .i64 0)))⟩]) (.blk 0 (.loop ((.seq ((.seq (.reg false [⟨none, .mv 35 (.t 5)⟩, ⟨none, .fa 36 4 (.t 2)⟩, ⟨none, .ld 37 false 1 (.t 36)⟩, ⟨none, .len 38 (.t 37)⟩, ⟨none, .bin 39 .lss (.t 35) (.t 38)⟩]) (.cond (.t 39) (.skip) (.exit 0)))) ((.seq (.blk 1 ((.seq (.reg true [⟨none, .fa 42 4 (.t 2)⟩, ⟨none, .ld 43 false 1 (.t 42)⟩, ⟨none, .mv 44 (.t 5)⟩, ⟨none, .ia 45 1 (.t 43) (.t 44)⟩, ⟨none, .ld 46 false 1 (.t 45)⟩, ⟨none, .fa 47 4 (.t 3)⟩, ⟨none, .ld 48 false 1 (.t 47)⟩, ⟨none, .mv 49 (.t 5)⟩, ⟨none, .ia 50 1 (.t 48) (.t 49)⟩, ⟨none, .ld 51 false 1 (.t 50)⟩, ⟨none, .call (some 52) f1 [(.t 46), (.t 51)]⟩, ⟨none, .un 53 .not (.t 52)⟩]) (.cond (.t 53) ((.seq (.reg false [⟨none, .mv 4 (.c (.sc (.bool false)))⟩]) (.ret))) (.skip))))) (.reg false [⟨none, .mv 40 (.t 5)⟩, ⟨none, .bin 41 .add (.t 40) (.c (.sc (.int .i64 1)))⟩, ⟨none, .mv 5 (.t 41)⟩]))))))))) ((.seq (.reg false [⟨none, .mv 4 (.c (.sc (.bool true)))⟩]) (.ret))))))))
def K_spSameModel (P : Program) (fno : Nat) : Prop := ∀ (m : Mo), AF P fno [eM m, eM m] (.own (eB true))
theorem a_spSameModel {P : Program} (hm : P.follows .mixedOrders = true) {g f1 : Nat} (hr : resF P g = some (54, k_spSameModel f1, [.t 4])) (hc1 : K_l05SameRows P f1) : K_spSameModel P g := by
 intro m
 obtain ⟨⟨g1, g2⟩, p, T, A⟩ := m
 refine af_of_res hr hm rfl fun hb => ?_
 have hl : A.2.length ≤ 9223372036854775807 := by
  have h := hb.1
  simp only [eM, eS, D.bd, D.bdL, lM, maxEl] at h
  omega
 have hT := hc1 T T
 rw [rows_self] at hT
 simp +contextual -implicitDefEqProofs only [k_spSameModel, bne, eM, eS, eI, eB, D.size, D.sizeL, D.sub, bE, D.isAg, lN, lC, List.length_cons, List.length_nil, bT, bN, Bool.true_and, bU, go_sem, ↓reduceIte, Nat.reduceEqDiff, Nat.reduceAdd, Nat.reduceLeDiff, Nat.reduceBEq, Nat.reduceLT]
 refine callQ_self ?_ hT ?_
 ·exact rfl
 simp +contextual -implicitDefEqProofs only [bne, eB, D.sub, bE, D.isAg, bT, go_sem, ↓reduceIte, Nat.reduceEqDiff, Nat.reduceAdd, Nat.reduceLeDiff, Nat.reduceLT, lM]
 refine vc_onU (α := Nat) [4, 5, 35, 36, 37, 38, 39, 40, 41, 42, 43, 44, 45, 46, 47, 48, 49, 50, 51, 52, 53] (fun i => [(5, .im none (.sc (.int .i64 i)))]) (fun i => [(3, .ar false (some false) 5 [.ag [.sc (.int .i64 g1), .sc (.int .i64 g2), .sc (.int .i64 p), .ls T.1 1 (T.2.map (eS 1 eB)), .ls A.1 1 (A.2.map (eS 1 (eS 1 eB)))]]), (2, .ar false (some false) 5 [.ag [.sc (.int .i64 g1), .sc (.int .i64 g2), .sc (.int .i64 p), .ls T.1 1 (T.2.map (eS 1 eB)), .ls A.1 1 (A.2.map (eS 1 (eS 1 eB)))]])]) (fun i => i ≤ A.2.length) (fun i => A.2.length - i) 0 (Ent.to [] (by simp only [go_sem]; rfl) rfl (by simp []) (by rfl) (by simp only [subEnv, go_sem, ↓reduceIte, Nat.reduceEqDiff, keep, memN] <;> simp)) (Nat.zero_le _) ?_
 intro i hi0
 by_cases hi : i < A.2.length
 ·have e1 := at_mapD (f := eS 1 (eS 1 eB)) (d := (none, [])) hi
  have hA := hc1 (A.2.getD i (none, [])) (A.2.getD i (none, []))
  rw [rows_self] at hA
  simp +contextual -implicitDefEqProofs only [hi, e1, Int.toNat_natCast, iL, lM, eS, D.size, D.sub, D.isAg, lN, lC, go_sem, ↓reduceIte, Nat.reduceEqDiff, Nat.reduceAdd, Nat.reduceLeDiff, Nat.reduceLT, iN]
  refine callQ_self ?_ hA ?_
  ·exact rfl
  simp +contextual -implicitDefEqProofs only [eB, bT, go_sem, ↓reduceIte, Nat.reduceEqDiff]
  rw [wrap_i64 (by omega) (by omega)]
  exact ⟨i + 1, by omega, by omega, Ent.to [] (by simp only [go_sem]; rfl) rfl (by simp) (by rfl) (by simp only [subEnv, go_sem, ↓reduceIte, Nat.reduceEqDiff] <;> simp)⟩
 ·simp +contextual -implicitDefEqProofs only [hi, iL, lM, D.sub, D.isAg, go_sem, ↓reduceIte, Nat.reduceEqDiff, Nat.reduceAdd, Nat.reduceLeDiff, Nat.reduceLT]
end Go.Ax
namespace Go.Ax
set_option maxHeartbeats 1000000

def jMo (a b : Mo) (n1 n2 : Nat) : Mo := joinMo a.1 n1 (n1 + n2) a.2.2.1.2 b.2.2.1.2 a.2.2.2.2 b.2.2.2.2
theorem tabL_memJ {α : Type} {n : Nat} {g : Nat → α} {x : α} (h : x ∈ tabL n g) : ∃ i, i < n ∧ g i = x := by
 unfold tabL at h
 rw [List.mem_map] at h
 obtain ⟨i, hi, e⟩ := h
 exact ⟨i, List.mem_range.1 hi, e⟩
section
variable {a b : Mo} {n1 n2 : Nat}
theorem join_ok (ha : MoOk a n1) (hb : MoOk b n2) (hg : b.1 = a.1) (h8 : n1 + n2 ≤ 8) : MoOk (jMo a b n1 n2) (n1 + n2) := by
 have h1 := ha.n1
 have l1 : b.2.2.1.2.length = a.2.2.1.2.length := by have := ha.tl; have := hb.tl; rw [hg] at this; omega
 refine ⟨rfl, by omega, h8, ha.g, ?_, ?_, ?_, ?_⟩
 ·simp only [jMo, joinMo, tabL_len]; exact ha.tl
 ·intro r hr
  obtain ⟨k, hk, rfl⟩ := tabL_memJ hr
  simp only [rw_, List.length_append]
  rw [ha.tr _ (getD_mem hk), hb.tr _ (getD_mem (by omega))]
 ·simp only [jMo, joinMo, tabL_len]; exact ha.al
 ·intro r hr
  obtain ⟨k, hk, rfl⟩ := tabL_memJ hr
  exact rTab_sq
theorem join_act {v : Int} {x y : Nat} (hv : v.toNat < a.2.2.2.2.length) (hx : x < n1 + n2) (hy : y < n1 + n2) : relOf (actOf (jMo a b n1 n2) v) x y = joinR n1 (relOf (actOf a v)) (relOf (actOf b v)) x y := by
 have e : actOf (jMo a b n1 n2) v = rTab (n1 + n2) (joinR n1 (tb_ a.2.2.2.2 v.toNat) (tb_ b.2.2.2.2 v.toNat)) := by
  simp only [actOf, jMo, joinMo]
  exact tab_get hv
 rw [e, relOf_tab hx hy]
 rfl
theorem join_emb1 (ha : MoOk a n1) (hb : MoOk b n2) (hg : b.1 = a.1) (h8 : n1 + n2 ≤ 8) : Emb a (jMo a b n1 n2) n1 (n1 + n2) fun x => x where
 ok := ha
 ok2 := join_ok ha hb hg h8
 sg := rfl
 lt := fun x hx => by omega
 inj := fun x y _ _ e => e
 tst := fun v x h0 hv hx => by
  have e : (jMo a b n1 n2).2.2.1.2.getD v.toNat (none, []) = (some false, rw_ a.2.2.1.2 v.toNat ++ rw_ b.2.2.1.2 v.toNat) := tab_get hv
  simp only [testOf]
  rw [e]
  have hl : (rw_ a.2.2.1.2 v.toNat).length = n1 := ha.tr _ (getD_mem hv)
  simp only
  rw [List.getD_eq_getElem?_getD, List.getElem?_append_left (by omega), ← List.getD_eq_getElem?_getD]
 act := fun v x y' h0 hv hx hy => by
  rw [join_act hv (by omega) hy]
  simp only [joinR, if_pos hx, bA, decide_eq_true_eq]
  constructor
  ·rintro ⟨h1, h2⟩; exact ⟨y', h1, rfl, h2⟩
  ·rintro ⟨y, h1, rfl, h2⟩; exact ⟨h1, h2⟩
theorem join_emb2 (ha : MoOk a n1) (hb : MoOk b n2) (hg : b.1 = a.1) (h8 : n1 + n2 ≤ 8) : Emb b (jMo a b n1 n2) n2 (n1 + n2) fun x => n1 + x where
 ok := hb
 ok2 := join_ok ha hb hg h8
 sg := by rw [hg]; rfl
 lt := fun x hx => by omega
 inj := fun x y _ _ e => by omega
 tst := fun v x h0 hv hx => by
  have hv' : v.toNat < a.2.2.1.2.length := by have := ha.tl; have := hb.tl; rw [hg] at this; omega
  have e : (jMo a b n1 n2).2.2.1.2.getD v.toNat (none, []) = (some false, rw_ a.2.2.1.2 v.toNat ++ rw_ b.2.2.1.2 v.toNat) := tab_get hv'
  simp only [testOf]
  rw [e]
  have hl : (rw_ a.2.2.1.2 v.toNat).length = n1 := ha.tr _ (getD_mem hv')
  simp only
  rw [List.getD_eq_getElem?_getD, List.getElem?_append_right (by omega), ← List.getD_eq_getElem?_getD, hl, show n1 + x - n1 = x by omega]
 act := fun v x y' h0 hv hx hy => by
  have hv' : v.toNat < a.2.2.2.2.length := by have := ha.al; have := hb.al; rw [hg] at this; omega
  rw [join_act hv' (by omega) hy]
  simp only [joinR, if_neg (show ¬ n1 + x < n1 by omega), bA, decide_eq_true_eq, show n1 + x - n1 = x by omega]
  constructor
  ·rintro ⟨h1, h2⟩; exact ⟨y' - n1, by omega, by omega, h2⟩
  ·rintro ⟨y, h1, rfl, h2⟩
   refine ⟨by omega, ?_⟩
   rw [show n1 + y - n1 = y by omega]; exact h2

theorem join_rel (ha : MoOk a n1) (hb : MoOk b n2) (hg : b.1 = a.1) (h8 : n1 + n2 ≤ 8) {e : Ex} (ht : treeE a.1 e = true) {x y : Nat} (hx : x < n1 + n2) (hy : y < n1 + n2) :
  relE (jMo a b n1 n2) e x y = (if x < n1 ∧ y < n1 then relE a e x y else if n1 ≤ x ∧ n1 ≤ y then relE b e (x - n1) (y - n1) else false) := by
 have h1 := (join_emb1 ha hb hg h8).rel e ht
 have h2 := (join_emb2 ha hb hg h8).rel e (by rw [hg]; exact ht)
 by_cases hx1 : x < n1
 ·by_cases hy1 : y < n1
  ·rw [if_pos ⟨hx1, hy1⟩]
   exact h1.at (join_emb1 ha hb hg h8).lt (join_emb1 ha hb hg h8).inj hx1 hy1
  ·rw [if_neg (by omega), if_neg (by omega)]
   refine Bool.eq_false_iff.2 fun h => ?_
   obtain ⟨z, p1, p2, _⟩ := (h1 x y hx1 hy).1 h
   simp only at p2
   omega
 ·obtain ⟨x', rfl⟩ : ∃ x', x = n1 + x' := ⟨x - n1, by omega⟩
  by_cases hy1 : n1 ≤ y
  ·obtain ⟨y', rfl⟩ : ∃ y', y = n1 + y' := ⟨y - n1, by omega⟩
   rw [if_neg (by omega), if_pos (by omega), show n1 + x' - n1 = x' by omega, show n1 + y' - n1 = y' by omega]
   exact h2.at (join_emb2 ha hb hg h8).lt (join_emb2 ha hb hg h8).inj (by omega) (by omega)
  ·rw [if_neg (by omega), if_neg (by omega)]
   refine Bool.eq_false_iff.2 fun h => ?_
   obtain ⟨z, p1, p2, _⟩ := (h2 x' y (by omega) hy).1 h
   simp only at p2
   omega
end
end Go.Ax
namespace Go.Ax
set_option maxRecDepth 20000
set_option maxHeartbeats 4000000
def srt (l : List Int) : List Int := l.mergeSort fun x y => decide (x ≤ y)

def K_sortI (P : Program) (fno : Nat) : Prop := ∀ l : List Int, l.length ≤ 2000000 → AFW P fno [.ar true none 1 (l.map eI)] [.sm 3000000000 0 l.length] [.ar true none 1 ((srt l).map eI)] (.tup [])
theorem np_Ii : ∀ l : List Int, noPtrs (l.map eI) = true := by
 intro l
 induction l with
 | nil => rfl
 | cons a l ih => simpa [noPtrs, eI, D.noPtr] using ih
theorem sz_Ii {l : List Int} : ∀ e ∈ l.map eI, e.size = 1 := by
 intro e he
 obtain ⟨x, _, rfl⟩ := List.mem_map.1 he; rfl
theorem args_sm2 {un : Nat → Option U} {d : D} {id n sz : Nat} {ow : Bool} {nn : Option Bool} {es : List D} (hu : un id = some (.ar ow nn sz es)) (hn : n = es.length) : argsOf un [.im none d, .sm id 0 n] = some [d, .ls nn sz es] := by
 subst hn
 simp [argsOf, AV.arg, hu]
theorem srt_len {l : List Int} : (srt l).length = l.length := by simp [srt]

def k_cloneI : RC := (.seq (.reg false [⟨none, .mv 2 (.c (.ls (some true) 1 []))⟩]) ((.seq ((.seq (.reg false [⟨none, .mv 3 (.t 0)⟩, ⟨none, .snil 4 false (.t 3) (.c (.ls (some true) 1 []))⟩]) (.cond (.t 4) ((.seq (.reg false [⟨none, .mv 2 (.c (.ls (some true) 1 []))⟩]) (.ret))) (.skip)))) ((.seq (.reg false [⟨none, .bs 5 1 (.sc (.int .i64 0)) 0 []⟩, ⟨none, .mv 6 (.t 0)⟩, ⟨none, .app 7 1 8 (.t 5) (.t 6)⟩, ⟨none, .mv 2 (.t 7)⟩]) (.ret))))))
def K_cloneI (P : Program) (fno : Nat) : Prop := ∀ (l : List Int) (hl : l.length ≤ 2000000), AF P fno [.ls (some false) 1 (l.map eI)] (.arr 1 (l.map eI))
theorem a_cloneI {P : Program} (hm : P.follows .mixedOrders = true) {g : Nat} (hr : resF P g = some (8, k_cloneI, [.t 2])) : K_cloneI P g := by
 intro l hl
 refine af_of_res hr hm rfl fun hb => ?_
 cases l with
 | nil =>
  simp +contextual -implicitDefEqProofs only [k_cloneI, lN, List.length_nil, bE, bU, modeOf, noPtrs, go_sem, ↓reduceIte, Nat.reduceEqDiff, Nat.reduceLeDiff, Nat.reduceMul, Nat.reduceBEq, Nat.reduceLT]
  exact ⟨by unfold maxEl; omega, by simp⟩
 | cons b l =>
  simp +contextual -implicitDefEqProofs only [k_cloneI, np_Ii, lC, List.length_cons, eI, bE, bU, modeOf, noPtrs, lM, go_sem, ↓reduceIte, Nat.reduceEqDiff, Nat.reduceBEq, Nat.reduceLT]
  simp only [List.length_cons] at hl
  exact ⟨by omega, by unfold maxEl; omega, sz_Ii (l := b :: l)⟩
def renumM (m : Mo) (l : List Int) : Mo × Int :=
 if okMo m = true then (if (l.length : Int) = m.2.1 ∧ isSetB m.2.1 (srt l) = true then (pickMo m l, 0) else (zMo, 2)) else (zMo, 1)
theorem mem_srt {l : List Int} {x : Int} : x ∈ srt l ↔ x ∈ l := List.mem_mergeSort
theorem pick_srt {m : Mo} {l : List Int} (h : okMo m = true) (hs : isSetB m.2.1 (srt l) = true) : PickOk m l := by
 have p := pick_ok h hs
 exact ⟨by simpa [srt_len] using p.small, p.st, p.sa, fun x hx => p.nn x (mem_srt.2 hx), fun r hr x hx => p.t r hr x (mem_srt.2 hx), fun a ha x hx => p.a a ha x (mem_srt.2 hx), fun a ha r hr x hx => p.b a ha r hr x (mem_srt.2 hx)⟩

def k_imRenumber (f1 f2 f3 f4 f5 : Nat) : RC := (.seq (.reg false [⟨none, .box 2 5 (.t 0)⟩, ⟨none, .zer 4 5 (.ag [(.sc (.int .i64 0)), (.sc (.int .i64 0)), (.sc (.int .i64 0)), (.ls (some true) 1 []), (.ls (some true) 1 [])])⟩, ⟨none, .mv 5 (.c (.sc (.int .i64 0)))⟩]) ((.seq ((.seq (.reg false [⟨none, .ld 7 true 5 (.t 2)⟩, ⟨none, .call (some 8) f1 [(.t 7)]⟩, ⟨none, .un 9 .not (.t 8)⟩]) (.cond (.t 9) ((.seq (.reg false [⟨none, .bld 10 (.ag [(.sc (.int .i64 0)), (.sc (.int .i64 0)), (.sc (.int .i64 0)), (.ls (some true) 1 []), (.ls (some true) 1 [])]) []⟩, ⟨none, .st 5 (.t 4) (.t 10)⟩, ⟨none, .mv 5 (.c (.sc (.int .i64 1)))⟩]) (.ret))) (.skip)))) ((.seq (.reg false [⟨none, .mv 11 (.t 1)⟩, ⟨none, .call (some 12) f2 [(.t 11)]⟩, ⟨none, .mv 6 (.t 12)⟩]) ((.seq (.reg false [⟨none, .mv 13 (.t 6)⟩, ⟨none, .wcl (some 14) f3 [(.t 13)]⟩]) ((.seq ((.seq (.reg false [⟨none, .mv 15 (.t 1)⟩, ⟨none, .len 16 (.t 15)⟩, ⟨none, .fa 17 2 (.t 2)⟩, ⟨none, .ld 18 false 1 (.t 17)⟩, ⟨none, .bin 19 .neq (.t 16) (.t 18)⟩, ⟨none, .mv 20 (.t 19)⟩, ⟨some (20, false), .ld 21 true 5 (.t 2)⟩, ⟨some (20, false), .mv 22 (.t 6)⟩, ⟨some (20, false), .call (some 23) f4 [(.t 21), (.t 22)]⟩, ⟨some (20, false), .un 24 .not (.t 23)⟩, ⟨none, .pick 25 (.t 20) (.c (.sc (.bool true))) (.t 24)⟩]) (.cond (.t 25) ((.seq (.reg false [⟨none, .bld 26 (.ag [(.sc (.int .i64 0)), (.sc (.int .i64 0)), (.sc (.int .i64 0)), (.ls (some true) 1 []), (.ls (some true) 1 [])]) []⟩, ⟨none, .st 5 (.t 4) (.t 26)⟩, ⟨none, .mv 5 (.c (.sc (.int .i64 2)))⟩]) (.ret))) (.skip)))) ((.seq (.reg false [⟨none, .ld 27 true 5 (.t 2)⟩, ⟨none, .mv 28 (.t 1)⟩, ⟨none, .call (some 29) f5 [(.t 27), (.t 28)]⟩, ⟨none, .st 5 (.t 4) (.t 29)⟩, ⟨none, .mv 5 (.c (.sc (.int .i64 0)))⟩]) (.ret))))))))))))
def K_imRenumber (P : Program) (fno : Nat) : Prop := ∀ (m : Mo) (l : List Int) (hl : l.length ≤ 2000000), AF P fno [eM m, .ls (some false) 1 (l.map eI)] (.tup ([.own (eM (renumM m l).1), .own (eI (renumM m l).2)]))
theorem a_imRenumber {P : Program} (hm : P.follows .mixedOrders = true) {g f1 f2 f3 f4 f5 : Nat} (hr : resF P g = some (30, k_imRenumber f1 f2 f3 f4 f5, [.c 4 5 true, .t 5])) (hc1 : K_validModel P f1) (hc2 : K_cloneI P f2) (hc3 : K_sortI P f3) (hc4 : K_isSet P f4) (hc5 : K_chosen P f5) : K_imRenumber P g := by
 intro m l hl
 refine af_of_res hr hm rfl fun hb => ?_
 simp +contextual -implicitDefEqProofs only [k_imRenumber, eM, eS, eI, D.size, D.sizeL, D.sub, bE, D.isAg, bne, bN, bU, go_sem, ↓reduceIte, Nat.reduceEqDiff, Nat.reduceAdd, Nat.reduceLeDiff, Nat.reduceBEq, Nat.reduceLT]
 refine callQ_self (ds := [eM m]) (by rfl) (hc1 m) ?_
 cases ho : okMo m
 ·have et : renumM m l = (zMo, 1) := by simp [renumM, ho]
  rw [et]
  simp +contextual -implicitDefEqProofs only [eB, D.size, D.sizeL, D.sub, bE, D.isAg, bne, bN, bU, Bool.and_false, Bool.or_true, Bool.or_false, D.put, D.cells, modeOf, noPtrs, go_sem, ↓reduceIte, Nat.reduceEqDiff, Nat.reduceAdd, Nat.reduceLeDiff, Nat.reduceBEq, Nat.reduceLT]
  exact D.Le.refl _
 ·have hp := okMo_pts ho
  simp +contextual -implicitDefEqProofs only [eB, bT, go_sem, ↓reduceIte, Nat.reduceEqDiff]
  refine callQ_self (ds := [.ls (some false) 1 (l.map eI)]) (by rfl) (hc2 l hl) ?_
  simp +contextual -implicitDefEqProofs only [bne, bN, bU, lM, go_sem, ↓reduceIte, Nat.reduceBEq]
  refine wcl_self [12] [] (by rfl) (by rfl) (by rfl) (hc3 l hl) rfl (by simp [wOut, outU, srt_len]) ?_
  simp +contextual -implicitDefEqProofs only [D.size, D.sizeL, D.sub, bE, D.isAg, bne, bN, bU, Bool.and_false, Bool.or_true, Bool.or_false, D.put, D.cells, modeOf, noPtrs, lM, go_sem, ↓reduceIte, Nat.reduceEqDiff, Nat.reduceAdd, Nat.reduceLeDiff, Nat.reduceBEq, Nat.reduceLT]
  by_cases hlp : (l.length : Int) = m.2.1
  ·have hb1 : ((l.length : Int) == m.2.1) = true := by simp [hlp]
   simp +contextual -implicitDefEqProofs only [hb1, bT, go_sem]
   refine callQ_self (ds := [eM m, eS 1 eI (some false, srt l)]) (args_sm2 (by rfl) (by simp [srt_len])) (hc4 m (some false, srt l) (by omega)) ?_
   cases hs : isSetB m.2.1 (srt l)
   ·have et : renumM m l = (zMo, 2) := by simp [renumM, ho, hlp, hs]
    rw [et]
    simp +contextual -implicitDefEqProofs only [eB, D.size, D.sizeL, D.sub, bE, D.isAg, bne, bN, bU, Bool.and_false, Bool.or_true, Bool.or_false, D.put, D.cells, modeOf, noPtrs, go_sem, ↓reduceIte, Nat.reduceEqDiff, Nat.reduceAdd, Nat.reduceLeDiff, Nat.reduceBEq, Nat.reduceLT]
    exact D.Le.refl _
   ·have et : renumM m l = (pickMo m l, 0) := by simp [renumM, ho, hlp, hs]
    rw [et]
    simp +contextual -implicitDefEqProofs only [eB, D.sub, D.isAg, bT, go_sem, ↓reduceIte, Nat.reduceEqDiff, Nat.reduceLeDiff]
    refine callQ_self (ds := [eM m, eS 1 eI (some false, l)]) (by rfl) (hc5 m (some false, l) (pick_srt ho hs)) ?_
    simp +contextual -implicitDefEqProofs only [eM, eS, eI, D.size, D.sizeL, D.sub, bE, D.isAg, bne, bN, Bool.true_and, bU, Bool.and_false, D.put, modeOf, noPtrs, go_sem, ↓reduceIte, Nat.reduceEqDiff, Nat.reduceAdd, Nat.reduceLeDiff, Nat.reduceBEq, Nat.reduceLT]
  ·have hb1 : ((l.length : Int) == m.2.1) = false := by simp [hlp]
   have et : renumM m l = (zMo, 2) := by simp [renumM, ho, hlp]
   rw [et]
   simp +contextual -implicitDefEqProofs only [hb1, bN, go_sem]
   exact D.Le.refl _

def k_spRenumber (f1 f2 f3 : Nat) : RC := (.seq (.reg false [⟨none, .box 2 5 (.t 0)⟩, ⟨none, .zer 4 5 (.ag [(.sc (.int .i64 0)), (.sc (.int .i64 0)), (.sc (.int .i64 0)), (.ls (some true) 1 []), (.ls (some true) 1 [])])⟩, ⟨none, .mv 5 (.c (.sc (.int .i64 0)))⟩]) ((.seq ((.seq (.reg false [⟨none, .call (some 7) f1 [(.t 2)]⟩, ⟨none, .un 8 .not (.t 7)⟩]) (.cond (.t 8) ((.seq (.reg false [⟨none, .bld 9 (.ag [(.sc (.int .i64 0)), (.sc (.int .i64 0)), (.sc (.int .i64 0)), (.ls (some true) 1 []), (.ls (some true) 1 [])]) []⟩, ⟨none, .st 5 (.t 4) (.t 9)⟩, ⟨none, .mv 5 (.c (.sc (.int .i64 1)))⟩]) (.ret))) (.skip)))) ((.seq ((.seq (.reg false [⟨none, .mv 10 (.t 1)⟩, ⟨none, .len 11 (.t 10)⟩, ⟨none, .fa 12 2 (.t 2)⟩, ⟨none, .ld 13 false 1 (.t 12)⟩, ⟨none, .bin 14 .neq (.t 11) (.t 13)⟩]) (.cond (.t 14) ((.seq (.reg false [⟨none, .bld 15 (.ag [(.sc (.int .i64 0)), (.sc (.int .i64 0)), (.sc (.int .i64 0)), (.ls (some true) 1 []), (.ls (some true) 1 [])]) []⟩, ⟨none, .st 5 (.t 4) (.t 15)⟩, ⟨none, .mv 5 (.c (.sc (.int .i64 2)))⟩]) (.ret))) (.skip)))) ((.seq ((.seq (.reg false [⟨none, .mv 6 (.c (.sc (.int .i64 0)))⟩]) (.blk 0 (.loop ((.seq ((.seq (.reg false [⟨none, .mv 16 (.t 6)⟩, ⟨none, .fa 17 2 (.t 2)⟩, ⟨none, .ld 18 false 1 (.t 17)⟩, ⟨none, .bin 19 .lss (.t 16) (.t 18)⟩]) (.cond (.t 19) (.skip) (.exit 0)))) ((.seq (.blk 1 ((.seq (.reg false [⟨none, .mv 22 (.t 1)⟩, ⟨none, .mv 23 (.t 6)⟩, ⟨none, .call (some 24) f2 [(.t 22), (.t 23)]⟩, ⟨none, .un 25 .not (.t 24)⟩]) (.cond (.t 25) ((.seq (.reg false [⟨none, .bld 26 (.ag [(.sc (.int .i64 0)), (.sc (.int .i64 0)), (.sc (.int .i64 0)), (.ls (some true) 1 []), (.ls (some true) 1 [])]) []⟩, ⟨none, .st 5 (.t 4) (.t 26)⟩, ⟨none, .mv 5 (.c (.sc (.int .i64 2)))⟩]) (.ret))) (.skip))))) (.reg false [⟨none, .mv 20 (.t 6)⟩, ⟨none, .bin 21 .add (.t 20) (.c (.sc (.int .i64 1)))⟩, ⟨none, .mv 6 (.t 21)⟩]))))))))) ((.seq (.reg false [⟨none, .mv 27 (.t 1)⟩, ⟨none, .call (some 28) f3 [(.t 2), (.t 27)]⟩, ⟨none, .st 5 (.t 4) (.t 28)⟩, ⟨none, .mv 5 (.c (.sc (.int .i64 0)))⟩]) (.ret))))))))))
def K_spRenumber (P : Program) (fno : Nat) : Prop := ∀ (m : Mo) (l : List Int) (hl : l.length ≤ 2000000), AF P fno [eM m, .ls (some false) 1 (l.map eI)] (.tup ([.own (eM (renumM m l).1), .own (eI (renumM m l).2)]))
theorem a_spRenumber {P : Program} (hm : P.follows .mixedOrders = true) {g f1 f2 f3 : Nat} (hr : resF P g = some (29, k_spRenumber f1 f2 f3, [.c 4 5 true, .t 5])) (hc1 : K_l05Ok P f1) (hc2 : K_l05Has P f2) (hc3 : K_l05Pick P f3) : K_spRenumber P g := by
 intro m l hl
 refine af_of_res hr hm rfl fun hb => ?_
 simp +contextual -implicitDefEqProofs only [k_spRenumber, eM, eS, eI, D.size, D.sizeL, bE, bne, bN, bU, go_sem, ↓reduceIte, Nat.reduceEqDiff, Nat.reduceAdd, Nat.reduceBEq, Nat.reduceLT]
 refine callQ_self (ds := [.pt (eM m) 0]) (by rfl) (hc1 m) ?_
 cases ho : okMo m
 ·have et : renumM m l = (zMo, 1) := by simp [renumM, ho]
  rw [et]
  simp +contextual -implicitDefEqProofs only [eB, D.size, D.sizeL, D.sub, bE, D.isAg, bne, bN, bU, Bool.and_false, Bool.or_true, Bool.or_false, D.put, D.cells, modeOf, noPtrs, go_sem, ↓reduceIte, Nat.reduceEqDiff, Nat.reduceAdd, Nat.reduceLeDiff, Nat.reduceBEq, Nat.reduceLT]
  exact D.Le.refl _
 ·have hp := okMo_pts ho
  by_cases hlp : (l.length : Int) = m.2.1
  ·have hb1 : ((l.length : Int) == m.2.1) = true := by simp [hlp]
   simp +contextual -implicitDefEqProofs only [hb1, eB, D.sub, D.isAg, bne, bT, lM, go_sem, ↓reduceIte, Nat.reduceEqDiff, Nat.reduceAdd, Nat.reduceLeDiff, Nat.reduceLT]
   refine vc_onU (α := Nat) [5, 6, 16, 17, 18, 19, 20, 21, 22, 23, 24, 25, 26] (fun i => [(6, .im none (.sc (.int .i64 i)))]) (fun i => [(4, .ar true (some false) 5 [.ag [.sc (.int .i64 0), .sc (.int .i64 0), .sc (.int .i64 0), .ls (some true) 1 [], .ls (some true) 1 []]]), (2, .ar false (some false) 5 [.ag [.sc (.int .i64 m.1.1), .sc (.int .i64 m.1.2), .sc (.int .i64 m.2.1), .ls m.2.2.1.1 1 (m.2.2.1.2.map (eS 1 eB)), .ls m.2.2.2.1 1 (m.2.2.2.2.map (eS 1 (eS 1 eB)))]])]) (fun i => i ≤ l.length ∧ (List.range i).all (fun (x : Nat) => hasI l x) = true) (fun i => l.length - i) 0 (Ent.to [] (by simp only [go_sem]; rfl) rfl (by simp) (by rfl) (by simp only [subEnv, go_sem, ↓reduceIte, Nat.reduceEqDiff, keep, memN] <;> simp)) ⟨Nat.zero_le _, rfl⟩ ?_
   rintro i ⟨hi0, hi1⟩
   by_cases hi : i < l.length
   ·have hi2 : (i : Int) < m.2.1 := by omega
    simp +contextual -implicitDefEqProofs only [hi2, D.sub, D.isAg, go_sem, ↓reduceIte, Nat.reduceEqDiff, Nat.reduceAdd, Nat.reduceLeDiff, Nat.reduceLT]
    refine callQ_self (ds := [eS 1 eI (some false, l), eI i]) (by rfl) (hc2 (some false, l) i) ?_
    cases hh : hasI l i
    ·have et : renumM m l = (zMo, 2) := by
      have : isSetB m.2.1 (srt l) = false := by
       rw [← hlp, srt, renum_has l.length l rfl, List.all_eq_false]
       exact ⟨i, by simpa using hi, by simp [hh]⟩
      simp [renumM, ho, this]
     rw [et]
     simp +contextual -implicitDefEqProofs only [eB, D.size, D.sizeL, D.sub, bE, D.isAg, bne, bN, bU, Bool.and_false, Bool.or_true, Bool.or_false, D.put, D.cells, modeOf, noPtrs, go_sem, ↓reduceIte, Nat.reduceEqDiff, Nat.reduceAdd, Nat.reduceLeDiff, Nat.reduceBEq, Nat.reduceLT]
     exact D.Le.refl _
    ·simp +contextual -implicitDefEqProofs only [eB, bT, go_sem, ↓reduceIte, Nat.reduceEqDiff]
     rw [wrap_i64 (by omega) (by omega)]
     exact ⟨i + 1, ⟨by omega, by rw [List.range_succ, List.all_append, hi1]; simp [hh]⟩, by omega, Ent.to [] (by simp only [go_sem]; rfl) rfl (by simp) (by rfl) (by simp only [subEnv, go_sem, ↓reduceIte, Nat.reduceEqDiff] <;> simp)⟩
   ·obtain rfl : i = l.length := by omega
    have hs : isSetB m.2.1 (srt l) = true := by rw [← hlp, srt, renum_has l.length l rfl]; exact hi1
    have et : renumM m l = (pickMo m l, 0) := by simp [renumM, ho, hlp, hs]
    have hi2 : ¬ (l.length : Int) < m.2.1 := by omega
    rw [et]
    simp +contextual -implicitDefEqProofs only [hi2, D.sub, D.isAg, go_sem, ↓reduceIte, Nat.reduceEqDiff, Nat.reduceAdd, Nat.reduceLeDiff, Nat.reduceLT]
    refine callQ_self (ds := [.pt (eM m) 0, eS 1 eI (some false, l)]) (by rfl) (hc3 m (some false, l) (pick_srt ho hs)) ?_
    simp +contextual -implicitDefEqProofs only [eM, eS, eI, D.size, D.sizeL, D.sub, bE, D.isAg, bne, bN, Bool.true_and, bU, Bool.and_false, D.put, modeOf, noPtrs, go_sem, ↓reduceIte, Nat.reduceEqDiff, Nat.reduceAdd, Nat.reduceLeDiff, Nat.reduceBEq, Nat.reduceLT]
  ·have hb1 : ((l.length : Int) == m.2.1) = false := by simp [hlp]
   have et : renumM m l = (zMo, 2) := by simp [renumM, ho, hlp]
   rw [et]
   simp +contextual -implicitDefEqProofs only [hb1, eB, D.size, D.sizeL, D.sub, bE, D.isAg, bne, bT, bN, bU, Bool.and_false, Bool.or_true, Bool.or_false, D.put, D.cells, modeOf, noPtrs, lM, go_sem, ↓reduceIte, Nat.reduceEqDiff, Nat.reduceAdd, Nat.reduceLeDiff, Nat.reduceBEq, Nat.reduceLT]
   exact D.Le.refl _
end Go.Ax
namespace Go.Ax
open Go.Sort
variable {P : Program}

theorem repL_ints {h : Heap} : ∀ {l : List Int} {G : List Nat} {cs : List Value}, RepL h (l.map eI) G cs → cs = l.map (Value.int .i64) ∧ G = []
 | [], G, cs, hr => by
  simp only [lN, RepL] at hr
  exact ⟨hr.2, hr.1⟩
 | x :: l, G, cs, hr => by
  simp only [lC, RepL] at hr
  obtain ⟨F, F', c1, c2, rfl, rfl, h1, h2⟩ := hr
  obtain ⟨rfl, rfl⟩ := repL_ints h2
  simp only [eI, Rep] at h1
  obtain ⟨rfl, rfl, _⟩ := h1
  exact ⟨rfl, rfl⟩
theorem ints_repL {h : Heap} : ∀ {l : List Int}, RepL h (l.map eI) [] (l.map (Value.int .i64))
 | [] => by simp [RepL]
 | x :: l => by
  simp only [lC, RepL]
  exact ⟨[], [], [.int .i64 x], l.map (Value.int .i64), rfl, rfl, by simp [eI, Rep, Value.oneCell'], ints_repL⟩
theorem putCells_row {c : Array Value} {l d : List Int} {rest : List Value} (hc : c.toList = l.map (Value.int .i64) ++ rest) (hd : d.length = l.length) :
  (putCells (Value.int .i64) 0 d.toArray c).toList = d.map (Value.int .i64) ++ rest := by
 apply List.ext_getElem?
 intro k
 simp only [putCells, Array.toList_mapIdx, List.getElem?_mapIdx, hc, Nat.zero_le, true_and, Nat.zero_add, List.size_toArray, Nat.sub_zero, hd]
 by_cases hk : k < l.length
 ·rw [List.getElem?_append_left (by simpa using hk), List.getElem?_append_left (by simpa [hd] using hk)]
  have hk2 : k < d.length := by omega
  simp [hk, hk2]
 ·rw [List.getElem?_append_right (by simp; omega), List.getElem?_append_right (by simp; omega)]
  simp [hk, hd]

theorem sortI_ok {f : Nat} (c : Callable P f) (h : ∀ (blk cap : Nat) (zs : List Int) (w : World), Holds (Value.int .i64) w blk 0 zs.toArray → blk < w.heap.size → zs.length < 4611686018427387904 →
  Calls P f #[.slice (some ⟨blk, 0, none⟩) zs.length cap] w fun e w' => e = .returned (.tuple #[]) ∧ ∃ n os, w' = grow (putRow (Value.int .i64) (Go.Sort.ahead w n) blk 0 (zs.mergeSort fun x y => decide (x ≤ y)).toArray) os) : K_sortI P f := by
 intro l hl
 refine ⟨c, by simp, fun w vs old g hW ha => ?_⟩
 have hm : ((3000000000, U.ar true none 1 (l.map eI)) : Nat × U) ∈ wids 0 [.ar true none 1 (l.map eI)] := by simp [wids]
 have hU := hW.each _ hm
 have hB := hW.blk _ hm rfl
 simp only [UOk] at hU
 obtain ⟨u1, u2, hU⟩ := hU
 rcases hU with ⟨hb, _⟩ | ⟨b, cc, e, G, cs, rest, q1, q2, q3, q4, q5, q6, q7, q8⟩
 ·exact absurd hb hB
 obtain ⟨rfl, rfl⟩ := repL_ints q6
 simp only [if_true] at q8
 simp only [VRepL] at ha
 obtain ⟨v, r, rfl, hv, rfl⟩ := ha
 simp only [VRep] at hv
 obtain ⟨ow, nn, sz, es, k1, k2, k3⟩ := hv
 simp only [wids, List.mem_singleton, Prod.mk.injEq, U.ar.injEq, Nat.add_zero, true_and] at k1
 obtain ⟨rfl, rfl, rfl, rfl⟩ := k1
 have k3' : ∃ b2, g.β 3000000000 = some b2 ∧ v = .slice (some ⟨b2, 0 * 1, none⟩) l.length (g.cap 3000000000 - 0) := by
  rcases k3 with k | ⟨k, _⟩
  ·exact k
  ·rw [q1] at k; cases k
 obtain ⟨b2, k4, rfl⟩ := k3'
 have hbb : b2 = b := by rw [q1] at k4; exact (Option.some.inj k4).symm
 subst hbb
 have hlt : b2 < w.heap.size := (Array.getElem?_eq_some_iff.1 q2).1
 have hH : Holds (Value.int .i64) w b2 0 l.toArray := by
  intro j hj
  have hj : j < l.length := by simpa using hj
  refine ⟨?_, by simp [World.frozen?, q2]⟩
  have hcell : cc[j]? = some (Value.int .i64 l[j]) := by
   rw [← Array.getElem?_toList, q3, List.getElem?_append_left (by simpa using hj)]
   simp [hj]
  simp [World.cell?, q2, hcell, hj]
 have hfp : ∀ es' : List D, fp g (wids 0 [.ar true none 1 es']) = [b2] := by intro es'; simp [fp, wids, q8]
 have hsl := srt_len (l := l)
 refine (h b2 (g.cap 3000000000 - 0) l w hH hlt (by omega)).mono ?_
 rintro e' w' ⟨rfl, n, os, rfl⟩
 have hsz : (grow (putRow (Value.int .i64) (Go.Sort.ahead w n) b2 0 (srt l).toArray) os).heap.size = w.heap.size + os.size := by
  simp [grow]
 have hold : ∀ x, x < w.heap.size → x ≠ b2 → (grow (putRow (Value.int .i64) (Go.Sort.ahead w n) b2 0 (srt l).toArray) os).heap[x]? = w.heap[x]? := by
  intro x hx hn
  simp only [grow, putRow, mapBlock]
  rw [Array.getElem?_append_left (by simpa using hx), Array.getElem?_modify, if_neg (fun e => hn e.symm)]
  rfl
 have hnew : (grow (putRow (Value.int .i64) (Go.Sort.ahead w n) b2 0 (srt l).toArray) os).heap[b2]? = some (.cells (putCells (Value.int .i64) 0 (srt l).toArray cc) e (0, 0)) := by
  simp only [grow, putRow, mapBlock]
  have q2' : (Go.Sort.ahead w n).heap[b2]? = some (.cells cc e (0, 0)) := q2
  rw [Array.getElem?_append_left (by simpa using hlt), Array.getElem?_modify, if_pos rfl, q2']
  rfl
 show ∃ v F g', _
 refine ⟨.tuple #[], [], g, rfl, rfl, rfl, rfl, by rw [show (fun x y => decide (x ≤ y)) = (fun (x y : Int) => decide (x ≤ y)) from rfl]; exact Nat.le_trans (Nat.le_add_right _ _) (Nat.le_of_eq hsz.symm), ?_, ?_, ?_⟩
 ·intro x hx hn
  rw [hfp] at hn
  exact hold x hx (by simpa using hn)
 ·refine ⟨?_, fun x _ => ⟨rfl, rfl⟩, ?_, ?_, ?_⟩
  ·intro x hx
   simp only [wids, List.mem_singleton, Nat.add_zero] at hx
   subst hx
   simp only [UOk]
   refine ⟨by simpa [hsl] using u1, sz_Ii, .inr ⟨b2, _, e, [], (srt l).map (Value.int .i64), rest, q1, hnew, putCells_row q3 hsl, ?_, by simpa [hsl] using q5, ints_repL, by simp, by simp [q8]⟩⟩
   simpa [putCells] using q4
  ·rw [hfp]; simp
  ·intro x hx
   rw [hfp] at hx
   simp only [List.nil_append, List.mem_singleton] at hx
   subst hx
   refine ⟨Nat.lt_of_lt_of_le (show _ < w.heap.size + os.size by omega) (Nat.le_of_eq hsz.symm), ⟨_, _, hnew⟩, fun _ => by rw [hfp]; simp, fun hs => ?_⟩
   have := (hW.sh _ hs).2.2
   rw [hfp] at this
   simp at this
  ·intro x hx
   have := hW.sh x hx
   exact ⟨Nat.lt_of_lt_of_le (show _ < w.heap.size + os.size by omega) (Nat.le_of_eq hsz.symm), fun _ => .inl this.2.1⟩
 ·simp [RetRep, RetRepL]
end Go.Ax
namespace Go.Ax
set_option maxHeartbeats 1000000
theorem moOk_okMo {m : Mo} {n : Nat} (h : MoOk m n) : okMo m = true := by
 have h1 := h.pts
 have h2 := h.n1
 have h3 := h.n8
 have hin : isIn m.2.1 1 8 = true := isIn_iff'.2 (by omega)
 simp only [okMo, testsOk, actsOk, tabOk, lenIs, h.g, hin, Bool.and_eq_true, beq_iff_eq, Bool.true_and, List.all_eq_true]
 exact ⟨⟨h.tl, fun r hr => by rw [h.tr r hr, h1]⟩, h.al, fun a ha => ⟨by rw [(h.asq a ha).len, h1], fun r hr => by rw [(h.asq a ha).row r hr, h1]⟩⟩
theorem tab_sq {n : Nat} {R : Rel} : tabOk (n : Int) (n : Int) (rTab n R) = true := by
 simp only [tabOk, lenIs, rTab, tabL_len, beq_self_eq_true, Bool.true_and, List.all_eq_true]
 intro r hr
 obtain ⟨i, _, rfl⟩ := tabL_memJ hr
 simp [tabL_len]
theorem made_all {a b : Mo} {n1 n2 : Nat} {e : Ex} {l : List Int} (ha : okMo a = true) (hb : okMo b = true) (h1 : a.2.1 = n1) (h2 : b.2.1 = n2) (hg : b.1 = a.1) (h8 : n1 + n2 ≤ 8) (he : Drn a.1 false 15 7 e) (hl : l.Perm (ints n1)) :
  ∃ J T : Mo, J.1 = a.1 ∧ joinS a b = (J, 0) ∧ renumM a l = (T, 0) ∧ (∀ z, relS z a e = (rTab n1 (relE a e), 0)) ∧ (∀ z, relS z b e = (rTab n2 (relE b e), 0)) ∧ (∀ z, relS z J e = (rTab (n1 + n2) (relE J e), 0)) ∧ (∀ z, relS z T e = (rTab n1 (relE T e), 0)) ∧
   (∀ x y, x < n1 + n2 → y < n1 + n2 → relE J e x y = (if x < n1 ∧ y < n1 then relE a e x y else if n1 ≤ x ∧ n1 ≤ y then relE b e (x - n1) (y - n1) else false)) ∧
   (∀ x y, x < n1 → y < n1 → relE T e x y = relE a e (l.getD x 0).toNat (l.getD y 0).toNat) := by
 obtain ⟨n, hA⟩ := okMo_ok ha
 obtain rfl : n1 = n := by have := hA.pts; omega
 obtain ⟨n, hB⟩ := okMo_ok hb
 obtain rfl : n2 = n := by have := hB.pts; omega
 have oe := okE_drn he (by omega)
 have oe2 : okE b.1 e = true := by rw [hg]; exact oe
 have hJ := join_ok hA hB hg h8
 have hE := order_emb hA hl
 have hT := hE.ok
 have hlen : l.length = n1 := by rw [hl.length_eq, ints_len]
 have hr := (hE.rel e he.1)
 refine ⟨jMo a b n1 n2, pickMo a l, rfl, ?_, ?_, fun z => relS_eq ha oe hA, fun z => relS_eq hb oe2 hB, fun z => relS_eq (moOk_okMo hJ) oe hJ, fun z => relS_eq (moOk_okMo hT) oe hT, fun x y hx hy => join_rel hA hB hg h8 he.1 hx hy, fun x y hx hy => (hr.at hE.lt hE.inj hx hy).symm⟩
 ·have e1 : (a.1.1 == b.1.1 && a.1.2 == b.1.2) = true := by rw [hg]; simp
  have e2 : decide (a.2.1 + b.2.1 > 8) = false := by rw [h1, h2]; exact decide_eq_false (by omega)
  have e3 : a.2.1.toNat = n1 := by rw [h1]; rfl
  have e4 : b.2.1.toNat = n2 := by rw [h2]; rfl
  simp [joinS, ha, hb, e1, e2, e3, e4, jMo]
 ·have hs : isSetB (n1 : Int) (srt l) = true := order_set hl
  simp [renumM, ha, hs, hlen, h1]
end Go.Ax
namespace Go.Ax

def opOth : ROp → List Oper
 | .other o => [o]
 | _ => []
def RC.oths : RC → List Oper
 | .reg _ ops => ops.flatMap fun r => opOth r.op
 | .seq a b => a.oths ++ b.oths
 | .cond _ a b => a.oths ++ b.oths
 | .blk _ c => c.oths
 | .loop c => c.oths
 | _ => []
def othF (P : Program) (i k : Nat) : Oper := match resF P i with
 | some (_, c, _) => c.oths.getD k default
 | none => default
end Go.Ax
namespace Go.Ax
open Go.Proofs Go.Shelf

def oneB (P : Program) (t : TypeId) : Bool := match P.info? t with
 | some i => (match i.zero with
  | some z => i.size == 1 && (i.bytes == 1 && z.cells.size == 1)
  | none => false)
 | none => false
theorem oneB_ok {P : Program} {t : TypeId} (h : oneB P t = true) : ∃ i z, P.info? t = some i ∧ i.zero = some z ∧ i.size = 1 ∧ i.bytes = 1 ∧ z.cells.size = 1 := by
 unfold oneB at h
 split at h
 ·next i hi =>
  split at h
  ·next z hz =>
   simp only [Bool.and_eq_true, beq_iff_eq] at h
   exact ⟨i, z, hi, hz, h.1, h.2.1, h.2.2⟩
  ·cases h
 ·cases h

theorem grow_K {P : Program} {ρ : Ren} (L : Lays8.n4 P ρ) (hk : oneB P (ρ.t 25) = true) : K_growB P (ρ.f 4) := by
 intro n h0 h1
 obtain ⟨i0, z, hi0, hz0, hs0, hb0, hzs⟩ := oneB_ok hk
 refine ⟨?_, fun w vs old ha => ?_⟩
 ·obtain ⟨nm, q1, q2⟩ := L.f4
  exact ⟨_, q2, rfl, q1⟩
 simp only [ArgsRep, Rep, eI, D.fits] at ha
 obtain ⟨v1, r1, F1, rfl, hv1, f1, _, v2, r2, F2, rfl, ⟨_, hv2, _⟩, f2, _, rfl⟩ := ha
 have e1 : v1 = .slice none 0 0 := by
  rcases hv1 with ⟨p, q1, _, _, _, q2⟩ | ⟨b, off, cap, c, e, fr, F', q1, _, q2, _⟩
  ·cases p with
   | some p => exact absurd rfl (q2 rfl)
   | none =>
    rw [cells_one f1] at q1
    simpa using q1
  ·exact absurd rfl q2
 have e2 : v2 = .int .i64 n := by
  rw [cells_one f2] at hv2
  simpa using hv2
 subst e1 e2
 have h := Any8.slices_Grow_grow L i0 z hi0 hz0 (by omega) none 0 0 n [] w (Nat.le_refl _) (by omega) (by rw [hb0]; omega) (by omega) (by simp) (fun _ => rfl) (by simp)
 refine Calls.mono h ?_
 rintro e w' ⟨rfl, rfl⟩
 refine ⟨_, [w.heap.size], [], rfl, ?_, ?_, by simp, ?_, by simp⟩
 ·exact ((Go.RowKit.Below.refl _ w).drew).alloc (Nat.le_refl _) _
 ·simp only [RetRep, Rep, D.fits, true_and]
  refine ⟨.inr ⟨w.heap.size, 0, _, _, _, (0, 0), [], rfl, rfl, by simp, Nat.zero_le _, Nat.zero_le _, heap_alloc_new w.drew _, ?_, by simp, by simp [RepL]⟩, rfl⟩
  have := grownCap_ge w (0 + n) 0 (ρ.t 25)
  simp only [Array.size_append, List.size_toArray, size_zeroCells, hzs]
  simp
  omega
 ·intro b hb
  simp only [List.mem_singleton] at hb
  subst hb
  exact ⟨Nat.le_refl _, by simp, _, _, heap_alloc_new w.drew _⟩
end Go.Ax
