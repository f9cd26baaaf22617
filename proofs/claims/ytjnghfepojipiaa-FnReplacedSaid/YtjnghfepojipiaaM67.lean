/- Contracts of functions of the seat, proved over the engine. No condition. -/
import Derived.Lib.Walk
import Derived.Below
import Derived.Test.YtjnghfepojipiaaX103
import Derived.Test.YtjnghfepojipiaaChecked
set_option linter.unusedSimpArgs false
set_option linter.unusedVariables false
set_option linter.unnecessarySimpa false
namespace Go.Ax
open Go.Proofs
set_option linter.unusedSimpArgs false
theorem mixed : Try.prog.follows .mixedOrders = true := by kernel_rfl
theorem res53 : resF Try.prog 53 = some (6, k_f6big, [.t 2]) := by kernel_rfl
theorem af53 : K_f6big Try.prog 53 := a_f6big mixed res53
theorem res149 : resF Try.prog 149 = some (6, k_l00From, [.t 2]) := by kernel_rfl
theorem af149 : K_l00From Try.prog 149 := a_l00From mixed res149
theorem res232 : resF Try.prog 232 = some (62, k_srcNext, [.t 2]) := by kernel_rfl
theorem af232 : K_srcNext Try.prog 232 := a_srcNext mixed res232
theorem res152 : resF Try.prog 152 = some (20, k_srcPick 232, [.t 4]) := by kernel_rfl
theorem af152 : K_srcPick Try.prog 152 := a_srcPick mixed res152 af232
theorem res148 : resF Try.prog 148 = some (24, k_l01DrawSig 152, [.c 2 2 true]) := by kernel_rfl
theorem af148 : K_l01DrawSig Try.prog 148 := a_l01DrawSig mixed res148 af152
theorem res54 : resF Try.prog 54 = some (6, k_p6Sig 149 148, [.c 2 2 true]) := by kernel_rfl
theorem af54 : K_p6Sig Try.prog 54 := a_p6Sig mixed res54 af149 af148
theorem res151 : resF Try.prog 151 = some (9, k_srcOne 152, [.t 4]) := by kernel_rfl
theorem af151 : K_srcOne Try.prog 151 := a_srcOne mixed res151 af152
theorem res277 : resF Try.prog 277 = some (66, k_genLeaf 151 152, [.c 4 3 true]) := by kernel_rfl
theorem af277 : K_genLeaf Try.prog 277 := a_genLeaf mixed res277 af151 af152
end Go.Ax
namespace Go.Proofs
open Go.RowKit Go.Lib
set_option maxHeartbeats 2000000
set_option maxRecDepth 100000
theorem push4_3 {α : Type} (h : Array α) (a b c d : α) : ((((h.push a).push b).push c).push d)[h.size + 1 + 1 + 1]? = some d := by
 have e : (((h.push a).push b).push c).size = h.size + 1 + 1 + 1 := by simp only [Array.size_push]
 rw [← e]
 exact Array.getElem?_push_size
theorem push4_2 {α : Type} (h : Array α) (a b c d : α) : ((((h.push a).push b).push c).push d)[h.size + 1 + 1]? = some c := by
 have e : ((h.push a).push b).size = h.size + 1 + 1 := by simp only [Array.size_push]
 rw [Array.getElem?_push, if_neg (by simp only [Array.size_push]; omega), ← e]
 exact Array.getElem?_push_size
theorem size_alc (w : World) (o : Obj) : (w.alloc o).heap.size = w.heap.size + 1 := by
 show (w.heap.push o).size = _
 simp only [Array.size_push]
theorem walkPair (k : Int) (a1 a2 a3 b1 b2 b3 : Value) (w : World) :
  Calls Try.prog 165 #[.int .i64 k, .agg #[a1, a2, a3], .agg #[b1, b2, b3]] w fun e w' => (∃ b t, e = .returned (.agg #[.int .i64 k, .int .i64 0, .slice (some ⟨b, 0, none⟩) 2 2]) ∧ w.heap.size ≤ b ∧ w'.heap[b]? = some (.cells #[a1, a2, a3, b1, b2, b3] t (0, 0))) ∧ Below w.heap.size w w' := by
 have mixed : Try.prog.follows .mixedOrders = true := by kernel_rfl
 go_enter Try.func165, Try.ntmps165
 go_wp2
 refine bodyPost_ret (results_cell_row rfl _ _ (w.heap.size + 1 + 1) 52 #[.int .i64 k, .int .i64 0, .slice (some ⟨w.heap.size + 1 + 1 + 1, 0, none⟩) 2 2] (0, 0) _ rfl ?_ Try.underlying52 rfl (by kernel_rfl)) rfl ?_
 ·exact push4_2 w.heap _ _ _ _
 ·refine ⟨⟨w.heap.size + 1 + 1 + 1, 52, rfl, by omega, ?_⟩, ?_⟩
  ·exact push4_3 w.heap _ _ _ _
  ·exact ((((Below.refl _ w).alloc (Nat.le_refl _) _).alloc (by simp only [size_alc]; omega) _).alloc (by simp only [size_alc]; omega) _).alloc (by simp only [size_alc]; omega) _
end Go.Proofs
namespace Go.Ax
open Go.Proofs
set_option linter.unusedSimpArgs false
theorem arr3 (a : Array Value) (h : a.size = 3) : ∃ x y z, a = #[x, y, z] := by
 obtain ⟨l⟩ := a
 match l, h with
 | [x, y, z], _ => exact ⟨x, y, z, rfl⟩
theorem af165 : K_l02PairX Try.prog 165 := by
 refine ⟨⟨Try.f165, Try.func165, by kernel_rfl, by kernel_rfl⟩, fun k a b w ha hb => ?_⟩
 obtain ⟨a1, a2, a3, rfl⟩ := arr3 a ha
 obtain ⟨b1, b2, b3, rfl⟩ := arr3 b hb
 exact walkPair k a1 a2 a3 b1 b2 b3 w
theorem res231 : resF Try.prog 231 = some (97, k_genExpr 231 151 277 152 165, [.c 6 3 true]) := by kernel_rfl
theorem af231 : K_genExpr Try.prog 231 := a_genExpr mixed res231 af151 af277 af152 af165
theorem res150 : resF Try.prog 150 = some (15, k_l01Drawn 231, [.c 6 3 true]) := by kernel_rfl
theorem af150 : K_l01Drawn Try.prog 150 := a_l01Drawn mixed res150 af231
theorem res55 : resF Try.prog 55 = some (12, k_p6Expr 149 150, [.c 6 3 true]) := by kernel_rfl
theorem af55 : K_p6Expr Try.prog 55 := a_p6Expr mixed res55 af149 af150
theorem res56 : resF Try.prog 56 = some (35, k_p6Path 149 151 152, [.t 4]) := by kernel_rfl
theorem af56 : K_p6Path Try.prog 56 := a_p6Path mixed res56 af149 af151 af152
theorem res115 : resF Try.prog 115 = some (15, k_within, [.t 6]) := by kernel_rfl
theorem af115 : K_within Try.prog 115 := a_within mixed res115
theorem res138 : resF Try.prog 138 = some (11, k_validSig 115, [.t 2]) := by kernel_rfl
theorem af138 : K_validSig Try.prog 138 := a_validSig mixed res138 af115
theorem res276 : resF Try.prog 276 = some (15, k_kidsOf, [.t 2]) := by kernel_rfl
theorem af276 : K_kidsOf Try.prog 276 := a_kidsOf mixed res276
theorem res227 : resF Try.prog 227 = some (25, k_isCondition 227, [.t 2]) := by kernel_rfl
theorem af227 : K_isCondition Try.prog 227 := a_isCondition mixed res227
theorem res226 : resF Try.prog 226 = some (86, k_shaped 226 276 115 227, [.t 8, .t 9]) := by kernel_rfl
theorem af226 : K_shaped Try.prog 226 := a_shaped mixed res226 af276 af115 af227
theorem res139 : resF Try.prog 139 = some (14, k_isExpr 226, [.t 4]) := by kernel_rfl
theorem af139 : K_isExpr Try.prog 139 := a_isExpr mixed res139 af226
theorem res153 : resF Try.prog 153 = some (12, k_validExpr 138 139, [.t 4]) := by kernel_rfl
theorem af153 : K_validExpr Try.prog 153 := a_validExpr mixed res153 af138 af139
theorem res154 : resF Try.prog 154 = some (37, k_nodeAt 115, [.c 4 3 true, .t 5, .t 6]) := by kernel_rfl
theorem af154 : K_nodeAt Try.prog 154 := a_nodeAt mixed res154 af115
theorem res155 : resF Try.prog 155 = some (27, k_copyExpr 155, [.c 2 3 true]) := by kernel_rfl
theorem af155 : K_copyExpr Try.prog 155 := a_copyExpr mixed res155
theorem res57 : resF Try.prog 57 = some (28, k_imSubtermAt 153 154 155, [.c 6 3 true, .t 7]) := by kernel_rfl
theorem af57 : K_imSubtermAt Try.prog 57 := a_imSubtermAt mixed res57 af153 af154 af155
theorem res141 : resF Try.prog 141 = some (20, k_validExprs 139 138, [.t 4]) := by kernel_rfl
theorem af141 : K_validExprs Try.prog 141 := a_validExprs mixed res141 af139 af138
theorem res230 : resF Try.prog 230 = some (52, k_replaced 230 155, [.c 6 3 true]) := by kernel_rfl
theorem af230 : K_replaced Try.prog 230 := a_replaced mixed res230 af155
theorem res147 : resF Try.prog 147 = some (41, k_imReplaceAt 154 227 230 139, [.c 8 3 true, .t 9]) := by kernel_rfl
theorem af147 : K_imReplaceAt Try.prog 147 := a_imReplaceAt mixed res147 af154 af227 af230 af139
theorem res52 : resF Try.prog 52 = some (24, k_imReplace 141 147, [.c 8 3 true, .t 9]) := by kernel_rfl
theorem af52 : K_imReplace Try.prog 52 := a_imReplace mixed res52 af141 af147
theorem res109 : resF Try.prog 109 = some (15, k_l00In, [.t 6]) := by kernel_rfl
theorem af109 : K_l00In Try.prog 109 := a_l00In mixed res109
theorem res130 : resF Try.prog 130 = some (11, k_l01Sig 109, [.t 2]) := by kernel_rfl
theorem af130 : K_l01Sig Try.prog 130 := a_l01Sig mixed res130 af109
theorem res221 : resF Try.prog 221 = some (30, k_l01Left 221, [.t 4]) := by kernel_rfl
theorem af221 : K_l01Left Try.prog 221 := a_l01Left mixed res221
theorem res224 : resF Try.prog 224 = some (10, k_l00Max, [.t 4]) := by kernel_rfl
theorem af224 : K_l00Max Try.prog 224 := a_l00Max mixed res224
theorem res222 : resF Try.prog 222 = some (25, k_l01Depth 222 224, [.t 2]) := by kernel_rfl
theorem af222 : K_l01Depth Try.prog 222 := a_l01Depth mixed res222 af224
theorem res275 : resF Try.prog 275 = some (15, k_l01Kids, [.t 2]) := by kernel_rfl
theorem af275 : K_l01Kids Try.prog 275 := a_l01Kids mixed res275
theorem res157 : resF Try.prog 157 = some (34, k_l01Condition 157 109, [.t 2]) := by kernel_rfl
theorem af157 : K_l01Condition Try.prog 157 := a_l01Condition mixed res157 af109
theorem res223 : resF Try.prog 223 = some (80, k_l01Tree 223 275 109 157, [.t 4]) := by kernel_rfl
theorem af223 : K_l01Tree Try.prog 223 := a_l01Tree mixed res223 af275 af109 af157
theorem res131 : resF Try.prog 131 = some (22, k_l01Ok 130 221 222 223, [.t 4]) := by kernel_rfl
theorem af131 : K_l01Ok Try.prog 131 := a_l01Ok mixed res131 af130 af221 af222 af223
theorem res217 : resF Try.prog 217 = some (36, k_l01Own 217, [.c 2 3 true]) := by kernel_rfl
theorem af217 : K_l01Own Try.prog 217 := a_l01Own mixed res217
theorem res229 : resF Try.prog 229 = some (48, k_l04At 109, [.t 4, .t 5, .t 6]) := by kernel_rfl
theorem af229 : K_l04AtL Try.prog 229 := a_l04AtL mixed res229 af109
theorem res146 : resF Try.prog 146 = some (41, k_spL04Replace 217 157 131 229, [.c 8 3 true, .t 9]) := by kernel_rfl
theorem af146 : K_spL04Replace Try.prog 146 := a_spL04Replace mixed res146 af217 af157 af131 af229
theorem res51 : resF Try.prog 51 = some (24, k_spReplaceAt 131 146, [.c 8 3 true, .t 9]) := by kernel_rfl
theorem af51 : K_spReplaceAt Try.prog 51 := a_spReplaceAt mixed res51 af131 af146
theorem res156 : resF Try.prog 156 = some (62, k_l01Same 156, [.t 4]) := by kernel_rfl
theorem af156 : K_l01Same Try.prog 156 := a_l01Same mixed res156
theorem res58 : resF Try.prog 58 = some (6, k_p6Same 156, [.t 4]) := by kernel_rfl
theorem af58 : K_p6Same Try.prog 58 := a_p6Same mixed res58 af156
theorem res59 : resF Try.prog 59 = some (4, k_p6Cond 157, [.t 2]) := by kernel_rfl
theorem af59 : K_p6Cond Try.prog 59 := a_p6Cond mixed res59 af157
theorem res158 : resF Try.prog 158 = some (24, k_l01SizeX 158, [.t 2]) := by kernel_rfl
theorem af158 : K_l01SizeX Try.prog 158 := a_l01SizeX mixed res158
theorem res60 : resF Try.prog 60 = some (4, k_p6Size 158, [.t 2]) := by kernel_rfl
theorem af60 : K_p6Size Try.prog 60 := a_p6Size mixed res60 af158

def rc8 : RC := (.seq (.reg false [⟨none, .mv 4 (.c (.sc (.bool false)))⟩]) ((.seq ((.seq (.reg false [⟨none, .mv 19 (.t 0)⟩, ⟨none, .call (some 20) 53 [(.t 19)]⟩, ⟨none, .mv 21 (.t 20)⟩, ⟨some (21, false), .mv 22 (.t 1)⟩, ⟨some (21, false), .call (some 23) 53 [(.t 22)]⟩, ⟨none, .pick 24 (.t 21) (.c (.sc (.bool true))) (.t 23)⟩]) (.cond (.t 24) ((.seq (.reg false [⟨none, .mv 4 (.c (.sc (.bool true)))⟩]) (.ret))) (.skip)))) ((.seq (.reg false [⟨none, .mv 25 (.t 0)⟩, ⟨none, .call (some 26) 54 [(.t 25)]⟩, ⟨none, .zer 5 2 (.ag [(.sc (.int .i64 0)), (.sc (.int .i64 0))])⟩, ⟨none, .st 2 (.t 5) (.t 26)⟩]) ((.seq (.reg false [⟨none, .mv 27 (.t 0)⟩, ⟨none, .ld 28 true 2 (.t 5)⟩, ⟨none, .call (some 29) 55 [(.t 27), (.t 28), (.c (.sc (.int .i64 12)))]⟩, ⟨none, .zer 6 3 (.ag [(.sc (.int .i64 0)), (.sc (.int .i64 0)), (.ls (some true) 3 [])])⟩, ⟨none, .st 3 (.t 6) (.t 29)⟩]) ((.seq (.reg false [⟨none, .mv 30 (.t 1)⟩, ⟨none, .ld 31 true 2 (.t 5)⟩, ⟨none, .call (some 32) 55 [(.t 30), (.t 31), (.c (.sc (.int .i64 4)))]⟩, ⟨none, .zer 7 3 (.ag [(.sc (.int .i64 0)), (.sc (.int .i64 0)), (.ls (some true) 3 [])])⟩, ⟨none, .st 3 (.t 7) (.t 32)⟩]) ((.seq (.reg false [⟨none, .mv 33 (.t 1)⟩, ⟨none, .ld 34 true 3 (.t 6)⟩, ⟨none, .call (some 35) 56 [(.t 33), (.t 34)]⟩, ⟨none, .mv 8 (.t 35)⟩]) ((.seq (.reg false [⟨none, .ld 37 true 2 (.t 5)⟩, ⟨none, .ld 38 true 3 (.t 6)⟩, ⟨none, .mv 39 (.t 8)⟩, ⟨none, .call (some 40) 57 [(.t 37), (.t 38), (.t 39)]⟩, ⟨none, .mv 36 (.t 40)⟩, ⟨none, .ext 41 (.t 36) 0⟩, ⟨none, .ext 42 (.t 36) 1⟩, ⟨none, .zer 9 3 (.ag [(.sc (.int .i64 0)), (.sc (.int .i64 0)), (.ls (some true) 3 [])])⟩, ⟨none, .st 3 (.t 9) (.t 41)⟩, ⟨none, .mv 10 (.t 42)⟩]) ((.seq (.reg false [⟨none, .ld 44 true 2 (.t 5)⟩, ⟨none, .ld 45 true 3 (.t 6)⟩, ⟨none, .mv 46 (.t 8)⟩, ⟨none, .ld 47 true 3 (.t 7)⟩, ⟨none, .call (some 48) 52 [(.t 44), (.t 45), (.t 46), (.t 47)]⟩, ⟨none, .mv 43 (.t 48)⟩, ⟨none, .ext 49 (.t 43) 0⟩, ⟨none, .ext 50 (.t 43) 1⟩, ⟨none, .zer 11 3 (.ag [(.sc (.int .i64 0)), (.sc (.int .i64 0)), (.ls (some true) 3 [])])⟩, ⟨none, .st 3 (.t 11) (.t 49)⟩, ⟨none, .mv 12 (.t 50)⟩]) ((.seq (.reg false [⟨none, .ld 52 true 2 (.t 5)⟩, ⟨none, .ld 53 true 3 (.t 6)⟩, ⟨none, .mv 54 (.t 8)⟩, ⟨none, .ld 55 true 3 (.t 7)⟩, ⟨none, .call (some 56) 51 [(.t 52), (.t 53), (.t 54), (.t 55)]⟩, ⟨none, .mv 51 (.t 56)⟩, ⟨none, .ext 57 (.t 51) 0⟩, ⟨none, .ext 58 (.t 51) 1⟩, ⟨none, .zer 13 3 (.ag [(.sc (.int .i64 0)), (.sc (.int .i64 0)), (.ls (some true) 3 [])])⟩, ⟨none, .st 3 (.t 13) (.t 57)⟩, ⟨none, .mv 14 (.t 58)⟩]) ((.seq ((.seq (.reg false [⟨none, .mv 59 (.t 10)⟩, ⟨none, .bin 60 .neq (.t 59) (.c (.sc (.int .i64 0)))⟩, ⟨none, .mv 61 (.t 60)⟩, ⟨some (61, false), .mv 62 (.t 12)⟩, ⟨some (61, false), .mv 63 (.t 14)⟩, ⟨some (61, false), .bin 64 .neq (.t 62) (.t 63)⟩, ⟨none, .pick 65 (.t 61) (.c (.sc (.bool true))) (.t 64)⟩, ⟨none, .mv 66 (.t 65)⟩, ⟨some (66, false), .ld 67 true 3 (.t 11)⟩, ⟨some (66, false), .ld 68 true 3 (.t 13)⟩, ⟨some (66, false), .call (some 69) 58 [(.t 67), (.t 68)]⟩, ⟨some (66, false), .un 70 .not (.t 69)⟩, ⟨none, .pick 71 (.t 66) (.c (.sc (.bool true))) (.t 70)⟩]) (.cond (.t 71) ((.seq (.reg false [⟨none, .mv 4 (.c (.sc (.bool false)))⟩]) (.ret))) (.skip)))) ((.seq ((.seq (.reg false [⟨none, .mv 72 (.t 12)⟩, ⟨none, .bin 73 .neq (.t 72) (.c (.sc (.int .i64 0)))⟩]) (.cond (.t 73) ((.seq (.reg false [⟨none, .mv 74 (.t 12)⟩, ⟨none, .bin 75 .eql (.t 74) (.c (.sc (.int .i64 4)))⟩, ⟨none, .mv 76 (.t 75)⟩, ⟨some (76, true), .ld 77 true 3 (.t 7)⟩, ⟨some (76, true), .call (some 78) 59 [(.t 77)]⟩, ⟨some (76, true), .un 79 .not (.t 78)⟩, ⟨none, .pick 80 (.t 76) (.t 79) (.c (.sc (.bool false)))⟩, ⟨none, .mv 4 (.t 80)⟩]) (.ret))) (.skip)))) ((.seq (.reg false [⟨none, .ld 82 true 2 (.t 5)⟩, ⟨none, .ld 83 true 3 (.t 13)⟩, ⟨none, .mv 84 (.t 8)⟩, ⟨none, .call (some 85) 57 [(.t 82), (.t 83), (.t 84)]⟩, ⟨none, .mv 81 (.t 85)⟩, ⟨none, .ext 86 (.t 81) 0⟩, ⟨none, .ext 87 (.t 81) 1⟩, ⟨none, .zer 15 3 (.ag [(.sc (.int .i64 0)), (.sc (.int .i64 0)), (.ls (some true) 3 [])])⟩, ⟨none, .st 3 (.t 15) (.t 86)⟩, ⟨none, .mv 16 (.t 87)⟩]) ((.seq (.reg false [⟨none, .ld 89 true 2 (.t 5)⟩, ⟨none, .ld 90 true 3 (.t 13)⟩, ⟨none, .mv 91 (.t 8)⟩, ⟨none, .ld 92 true 3 (.t 9)⟩, ⟨none, .call (some 93) 52 [(.t 89), (.t 90), (.t 91), (.t 92)]⟩, ⟨none, .mv 88 (.t 93)⟩, ⟨none, .ext 94 (.t 88) 0⟩, ⟨none, .ext 95 (.t 88) 1⟩, ⟨none, .zer 17 3 (.ag [(.sc (.int .i64 0)), (.sc (.int .i64 0)), (.ls (some true) 3 [])])⟩, ⟨none, .st 3 (.t 17) (.t 94)⟩, ⟨none, .mv 18 (.t 95)⟩]) ((.seq (.reg true [⟨none, .mv 96 (.t 16)⟩, ⟨none, .bin 97 .eql (.t 96) (.c (.sc (.int .i64 0)))⟩, ⟨none, .mv 98 (.t 97)⟩, ⟨some (98, true), .mv 99 (.t 18)⟩, ⟨some (98, true), .bin 100 .eql (.t 99) (.c (.sc (.int .i64 0)))⟩, ⟨none, .pick 101 (.t 98) (.t 100) (.c (.sc (.bool false)))⟩, ⟨none, .mv 102 (.t 101)⟩, ⟨some (102, true), .ld 103 true 3 (.t 15)⟩, ⟨some (102, true), .ld 104 true 3 (.t 7)⟩, ⟨some (102, true), .call (some 105) 58 [(.t 103), (.t 104)]⟩, ⟨none, .pick 106 (.t 102) (.t 105) (.c (.sc (.bool false)))⟩, ⟨none, .mv 107 (.t 106)⟩, ⟨some (107, true), .ld 108 true 3 (.t 17)⟩, ⟨some (107, true), .ld 109 true 3 (.t 6)⟩, ⟨some (107, true), .call (some 110) 58 [(.t 108), (.t 109)]⟩, ⟨none, .pick 111 (.t 107) (.t 110) (.c (.sc (.bool false)))⟩, ⟨none, .mv 112 (.t 111)⟩, ⟨some (112, true), .ld 113 true 3 (.t 11)⟩, ⟨some (112, true), .call (some 114) 60 [(.t 113)]⟩, ⟨some (112, true), .ld 115 true 3 (.t 9)⟩, ⟨some (112, true), .call (some 116) 60 [(.t 115)]⟩, ⟨some (112, true), .bin 117 .add (.t 114) (.t 116)⟩, ⟨some (112, true), .ld 118 true 3 (.t 6)⟩, ⟨some (112, true), .call (some 119) 60 [(.t 118)]⟩, ⟨some (112, true), .ld 120 true 3 (.t 7)⟩, ⟨some (112, true), .call (some 121) 60 [(.t 120)]⟩, ⟨some (112, true), .bin 122 .add (.t 119) (.t 121)⟩, ⟨some (112, true), .bin 123 .eql (.t 117) (.t 122)⟩, ⟨none, .pick 124 (.t 112) (.t 123) (.c (.sc (.bool false)))⟩, ⟨none, .mv 4 (.t 124)⟩]) (.ret))))))))))))))))))))))))))))
theorem res8 : resF Try.prog 8 = some (125, rc8, [.t 4]) := by kernel_rfl
theorem law (x0 x1 : SL Int) (h0 : ∀ v ∈ x0.2, 0 ≤ v ∧ v < 256) (h1 : ∀ v ∈ x1.2, 0 ≤ v ∧ v < 256) : AF Try.prog 8 [eS 1 eU x0, eS 1 eU x1] (.own (eB true)) := by
 obtain ⟨n0, c0⟩ := x0
 obtain ⟨n1, c1⟩ := x1
 simp only at h0 h1
 show AF _ _ [.ls n0 1 (c0.map eU), .ls n1 1 (c1.map eU)] _
 refine af_of_res res8 mixed rfl fun hbd => ?_
 simp +contextual -implicitDefEqProofs only [rc8, eE_mk, eG, eI, eB, eS, bne_self_eq_false, bne, Bool.not_true, Bool.not_false, D.put, D.cells, D.size, D.sizeL, D.isAg, D.at, D.sub, modeOf, noPtrs, go_sem, ↓reduceIte, Nat.reduceEqDiff, Nat.reduceAdd, Nat.reduceLeDiff, Nat.reduceMul, Nat.reduceBEq, Nat.reduceBneDiff, Nat.reduceLT, Nat.reduceSub]
 refine callQ_self ?_ (af53 n0 c0) ?_
 ·exact rfl
 cases hd0 : decide ((c0.length : Int) > 4096)
 case true =>
  simp +contextual -implicitDefEqProofs only [eE_mk, eG, eI, eB, eS, bne_self_eq_false, bne, Bool.not_true, Bool.not_false, D.put, D.cells, D.size, D.sizeL, D.isAg, D.at, D.sub, modeOf, noPtrs, go_sem, ↓reduceIte, Nat.reduceEqDiff, Nat.reduceAdd, Nat.reduceLeDiff, Nat.reduceMul, Nat.reduceBEq, Nat.reduceBneDiff, Nat.reduceLT, Nat.reduceSub]
 simp +contextual -implicitDefEqProofs only [eE_mk, eG, eI, eB, eS, bne_self_eq_false, bne, Bool.not_true, Bool.not_false, D.put, D.cells, D.size, D.sizeL, D.isAg, D.at, D.sub, modeOf, noPtrs, go_sem, ↓reduceIte, Nat.reduceEqDiff, Nat.reduceAdd, Nat.reduceLeDiff, Nat.reduceMul, Nat.reduceBEq, Nat.reduceBneDiff, Nat.reduceLT, Nat.reduceSub]
 refine callQ_self ?_ (af53 n1 c1) ?_
 ·exact rfl
 cases hd1 : decide ((c1.length : Int) > 4096)
 case true =>
  simp +contextual -implicitDefEqProofs only [eE_mk, eG, eI, eB, eS, bne_self_eq_false, bne, Bool.not_true, Bool.not_false, D.put, D.cells, D.size, D.sizeL, D.isAg, D.at, D.sub, modeOf, noPtrs, go_sem, ↓reduceIte, Nat.reduceEqDiff, Nat.reduceAdd, Nat.reduceLeDiff, Nat.reduceMul, Nat.reduceBEq, Nat.reduceBneDiff, Nat.reduceLT, Nat.reduceSub]
 have hs0 : srcOk c0 := ⟨h0, by simp at hd0; omega⟩
 have hs1 : srcOk c1 := ⟨h1, by simp at hd1; omega⟩
 obtain ⟨g, hg, hP⟩ := af54 n0 c0 hs0
 obtain ⟨e, he, hE⟩ := af55 n0 c0 g 12 hs0 hg (by omega) (by omega)
 obtain ⟨r, hr, hR⟩ := af55 n1 c1 g 4 hs1 hg (by omega) (by omega)
 have hde := he.2.2.2.2.2
 obtain ⟨q, hq, hl, hQ⟩ := af56 n1 c1 e hs1 he.2.1 (by omega)
 have hsub := af57 g e (some false) q he.2.1
 have hrep := af52 g e (some false) q r he.2.1 hr.2.1
 have hrepS := af51 g e (some false) q r he.2.1 hr.2.1
 have esub : subAt g e q = (cpE (atE e q false).1, 0) := by
  have oke : okE g e = true := by
   have h5 := he.2.2.2.2.1
   simp only [okE, Bool.and_eq_true, decide_eq_true_eq]
   exact ⟨by omega, by omega, he.1⟩
  unfold subAt
  rw [hg, oke]
  simp only [Bool.and_self, if_true]
  rw [if_pos hq]
 rw [esub] at hsub
 simp only at hsub
 by_cases hc : (atE e q false).2.1 = true → condE r = true
 ·obtain ⟨z1, z2, ⟨bk, z3, z4⟩, z5, z6, z7, z8⟩ := replaced_all hg he hr hq (by omega) hc
  have hsz := he.2.2.2.2.1
  have hrz := hr.2.2.2.2.1
  generalize setE q (cpE e) (cpE r) = m at *
  generalize cpE (atE e q false).1 = old at *
  generalize cpE (cpE r) = th at *
  rw [z1] at hrep hrepS
  have hsub2 := af57 g m (some false) q z7
  rw [z2] at hsub2
  have hrep2 := af52 g m (some false) q old z7 z8
  rw [z3] at hrep2
  have hq1 := af58 m m
  rw [qE_refl] at hq1
  have hq2 := af58 th r
  rw [z5] at hq2
  have hq3 := af58 bk e
  rw [z4] at hq3
  have hm1 := af60 m (by omega)
  have hm2 := af60 old (by omega)
  have hm3 := af60 e (by omega)
  have hm4 := af60 r (by omega)
  have w1 : IntKind.i64.wrap ((sizeE m : Int) + (sizeE old : Int)) = (sizeE m : Int) + (sizeE old : Int) := wrap_i64 (by omega) (by omega)
  have w2 : IntKind.i64.wrap ((sizeE e : Int) + (sizeE r : Int)) = (sizeE e : Int) + (sizeE r : Int) := wrap_i64 (by omega) (by omega)
  have w3 : (((sizeE m : Int) + (sizeE old : Int)) == ((sizeE e : Int) + (sizeE r : Int))) = true := by simp; omega
  clear z1 z2 z3 z4 z5 z6 z7 z8 hsz hrz hc esub he hr hq hl hde
  generalize (sizeE m : Int) = s1 at *
  generalize (sizeE old : Int) = s2 at *
  generalize (sizeE e : Int) = s3 at *
  generalize (sizeE r : Int) = s4 at *
  obtain ⟨ek, en, enn, eks, rfl⟩ := Ex.ex e
  obtain ⟨rk, rn, rnn, rks, rfl⟩ := Ex.ex r
  obtain ⟨mk_, mn, mnn, mks, rfl⟩ := Ex.ex m
  obtain ⟨ok_, on_, onn, oks, rfl⟩ := Ex.ex old
  obtain ⟨tk, tn, tnn, tks, rfl⟩ := Ex.ex th
  obtain ⟨bk_, bn, bnn, bks, rfl⟩ := Ex.ex bk
  simp only [eE_mk] at hE hR hQ hsub hrep hrepS hsub2 hrep2 hq1 hq2 hq3 hm1 hm2 hm3 hm4
  simp +contextual -implicitDefEqProofs only [List.map_nil, eE_mk, eG, eI, eB, eS, bne_self_eq_false, bne, Bool.not_true, Bool.not_false, D.put, D.cells, D.size, D.sizeL, D.isAg, D.at, D.sub, modeOf, noPtrs, go_sem, ↓reduceIte, Nat.reduceEqDiff, Nat.reduceAdd, Nat.reduceLeDiff, Nat.reduceMul, Nat.reduceBEq, Nat.reduceBneDiff, Nat.reduceLT, Nat.reduceSub]
  refine callQ_self ?_ (hP) ?_
  ·exact rfl
  simp +contextual -implicitDefEqProofs only [eE_mk, eG, eI, eB, eS, bne_self_eq_false, bne, Bool.not_true, Bool.not_false, D.put, D.cells, D.size, D.sizeL, D.isAg, D.at, D.sub, modeOf, noPtrs, go_sem, ↓reduceIte, Nat.reduceEqDiff, Nat.reduceAdd, Nat.reduceLeDiff, Nat.reduceMul, Nat.reduceBEq, Nat.reduceBneDiff, Nat.reduceLT, Nat.reduceSub]
  refine callQ_self ?_ (hE) ?_
  ·exact rfl
  simp +contextual -implicitDefEqProofs only [eE_mk, eG, eI, eB, eS, bne_self_eq_false, bne, Bool.not_true, Bool.not_false, D.put, D.cells, D.size, D.sizeL, D.isAg, D.at, D.sub, modeOf, noPtrs, go_sem, ↓reduceIte, Nat.reduceEqDiff, Nat.reduceAdd, Nat.reduceLeDiff, Nat.reduceMul, Nat.reduceBEq, Nat.reduceBneDiff, Nat.reduceLT, Nat.reduceSub]
  refine callQ_self ?_ (hR) ?_
  ·exact rfl
  simp +contextual -implicitDefEqProofs only [eE_mk, eG, eI, eB, eS, bne_self_eq_false, bne, Bool.not_true, Bool.not_false, D.put, D.cells, D.size, D.sizeL, D.isAg, D.at, D.sub, modeOf, noPtrs, go_sem, ↓reduceIte, Nat.reduceEqDiff, Nat.reduceAdd, Nat.reduceLeDiff, Nat.reduceMul, Nat.reduceBEq, Nat.reduceBneDiff, Nat.reduceLT, Nat.reduceSub]
  refine callQ_self ?_ (hQ) ?_
  ·exact rfl
  simp +contextual -implicitDefEqProofs only [eE_mk, eG, eI, eB, eS, bne_self_eq_false, bne, Bool.not_true, Bool.not_false, D.put, D.cells, D.size, D.sizeL, D.isAg, D.at, D.sub, modeOf, noPtrs, go_sem, ↓reduceIte, Nat.reduceEqDiff, Nat.reduceAdd, Nat.reduceLeDiff, Nat.reduceMul, Nat.reduceBEq, Nat.reduceBneDiff, Nat.reduceLT, Nat.reduceSub]
  refine callQ_self ?_ (hsub) ?_
  ·exact rfl
  simp +contextual -implicitDefEqProofs only [eE_mk, eG, eI, eB, eS, bne_self_eq_false, bne, Bool.not_true, Bool.not_false, D.put, D.cells, D.size, D.sizeL, D.isAg, D.at, D.sub, modeOf, noPtrs, go_sem, ↓reduceIte, Nat.reduceEqDiff, Nat.reduceAdd, Nat.reduceLeDiff, Nat.reduceMul, Nat.reduceBEq, Nat.reduceBneDiff, Nat.reduceLT, Nat.reduceSub]
  refine callQ_self ?_ (hrep) ?_
  ·exact rfl
  simp +contextual -implicitDefEqProofs only [eE_mk, eG, eI, eB, eS, bne_self_eq_false, bne, Bool.not_true, Bool.not_false, D.put, D.cells, D.size, D.sizeL, D.isAg, D.at, D.sub, modeOf, noPtrs, go_sem, ↓reduceIte, Nat.reduceEqDiff, Nat.reduceAdd, Nat.reduceLeDiff, Nat.reduceMul, Nat.reduceBEq, Nat.reduceBneDiff, Nat.reduceLT, Nat.reduceSub]
  refine callQ_self ?_ (hrepS) ?_
  ·exact rfl
  simp +contextual -implicitDefEqProofs only [eE_mk, eG, eI, eB, eS, bne_self_eq_false, bne, Bool.not_true, Bool.not_false, D.put, D.cells, D.size, D.sizeL, D.isAg, D.at, D.sub, modeOf, noPtrs, go_sem, ↓reduceIte, Nat.reduceEqDiff, Nat.reduceAdd, Nat.reduceLeDiff, Nat.reduceMul, Nat.reduceBEq, Nat.reduceBneDiff, Nat.reduceLT, Nat.reduceSub]
  refine callQ_self ?_ (hq1) ?_
  ·exact rfl
  simp +contextual -implicitDefEqProofs only [eE_mk, eG, eI, eB, eS, bne_self_eq_false, bne, Bool.not_true, Bool.not_false, D.put, D.cells, D.size, D.sizeL, D.isAg, D.at, D.sub, modeOf, noPtrs, go_sem, ↓reduceIte, Nat.reduceEqDiff, Nat.reduceAdd, Nat.reduceLeDiff, Nat.reduceMul, Nat.reduceBEq, Nat.reduceBneDiff, Nat.reduceLT, Nat.reduceSub]
  refine callQ_self ?_ (hsub2) ?_
  ·exact rfl
  simp +contextual -implicitDefEqProofs only [eE_mk, eG, eI, eB, eS, bne_self_eq_false, bne, Bool.not_true, Bool.not_false, D.put, D.cells, D.size, D.sizeL, D.isAg, D.at, D.sub, modeOf, noPtrs, go_sem, ↓reduceIte, Nat.reduceEqDiff, Nat.reduceAdd, Nat.reduceLeDiff, Nat.reduceMul, Nat.reduceBEq, Nat.reduceBneDiff, Nat.reduceLT, Nat.reduceSub]
  refine callQ_self ?_ (hrep2) ?_
  ·exact rfl
  simp +contextual -implicitDefEqProofs only [eE_mk, eG, eI, eB, eS, bne_self_eq_false, bne, Bool.not_true, Bool.not_false, D.put, D.cells, D.size, D.sizeL, D.isAg, D.at, D.sub, modeOf, noPtrs, go_sem, ↓reduceIte, Nat.reduceEqDiff, Nat.reduceAdd, Nat.reduceLeDiff, Nat.reduceMul, Nat.reduceBEq, Nat.reduceBneDiff, Nat.reduceLT, Nat.reduceSub]
  refine callQ_self ?_ (hq2) ?_
  ·exact rfl
  simp +contextual -implicitDefEqProofs only [eE_mk, eG, eI, eB, eS, bne_self_eq_false, bne, Bool.not_true, Bool.not_false, D.put, D.cells, D.size, D.sizeL, D.isAg, D.at, D.sub, modeOf, noPtrs, go_sem, ↓reduceIte, Nat.reduceEqDiff, Nat.reduceAdd, Nat.reduceLeDiff, Nat.reduceMul, Nat.reduceBEq, Nat.reduceBneDiff, Nat.reduceLT, Nat.reduceSub]
  refine callQ_self ?_ (hq3) ?_
  ·exact rfl
  simp +contextual -implicitDefEqProofs only [eE_mk, eG, eI, eB, eS, bne_self_eq_false, bne, Bool.not_true, Bool.not_false, D.put, D.cells, D.size, D.sizeL, D.isAg, D.at, D.sub, modeOf, noPtrs, go_sem, ↓reduceIte, Nat.reduceEqDiff, Nat.reduceAdd, Nat.reduceLeDiff, Nat.reduceMul, Nat.reduceBEq, Nat.reduceBneDiff, Nat.reduceLT, Nat.reduceSub]
  refine callQ_self ?_ (hm1) ?_
  ·exact rfl
  simp +contextual -implicitDefEqProofs only [eE_mk, eG, eI, eB, eS, bne_self_eq_false, bne, Bool.not_true, Bool.not_false, D.put, D.cells, D.size, D.sizeL, D.isAg, D.at, D.sub, modeOf, noPtrs, go_sem, ↓reduceIte, Nat.reduceEqDiff, Nat.reduceAdd, Nat.reduceLeDiff, Nat.reduceMul, Nat.reduceBEq, Nat.reduceBneDiff, Nat.reduceLT, Nat.reduceSub]
  refine callQ_self ?_ (hm2) ?_
  ·exact rfl
  simp +contextual -implicitDefEqProofs only [w1, eE_mk, eG, eI, eB, eS, bne_self_eq_false, bne, Bool.not_true, Bool.not_false, D.put, D.cells, D.size, D.sizeL, D.isAg, D.at, D.sub, modeOf, noPtrs, go_sem, ↓reduceIte, Nat.reduceEqDiff, Nat.reduceAdd, Nat.reduceLeDiff, Nat.reduceMul, Nat.reduceBEq, Nat.reduceBneDiff, Nat.reduceLT, Nat.reduceSub]
  refine callQ_self ?_ (hm3) ?_
  ·exact rfl
  simp +contextual -implicitDefEqProofs only [w1, eE_mk, eG, eI, eB, eS, bne_self_eq_false, bne, Bool.not_true, Bool.not_false, D.put, D.cells, D.size, D.sizeL, D.isAg, D.at, D.sub, modeOf, noPtrs, go_sem, ↓reduceIte, Nat.reduceEqDiff, Nat.reduceAdd, Nat.reduceLeDiff, Nat.reduceMul, Nat.reduceBEq, Nat.reduceBneDiff, Nat.reduceLT, Nat.reduceSub]
  refine callQ_self ?_ (hm4) ?_
  ·exact rfl
  simp +contextual -implicitDefEqProofs only [w1, w2, w3, eE_mk, eG, eI, eB, eS, bne_self_eq_false, bne, Bool.not_true, Bool.not_false, D.put, D.cells, D.size, D.sizeL, D.isAg, D.at, D.sub, modeOf, noPtrs, go_sem, ↓reduceIte, Nat.reduceEqDiff, Nat.reduceAdd, Nat.reduceLeDiff, Nat.reduceMul, Nat.reduceBEq, Nat.reduceBneDiff, Nat.reduceLT, Nat.reduceSub]
 ·have hcc : (atE e q false).2.1 = true ∧ condE r = false := by
   cases h1 : (atE e q false).2.1
   ·exact absurd (fun h => by rw [h1] at h; cases h) hc
   ·cases h2 : condE r
    ·exact ⟨rfl, rfl⟩
    ·exact absurd (fun _ => h2) hc
  have okr : okE g r = true ∧ okE g e = true := by
   have h5 := he.2.2.2.2.1
   have h6 := hr.2.2.2.2.1
   have h7 := hr.2.2.2.2.2
   simp only [okE, Bool.and_eq_true, decide_eq_true_eq]
   exact ⟨⟨by omega, by omega, hr.1⟩, by omega, by omega, he.1⟩
  have z1 : replT g e q r = (E0, 4) := by simp [replT, replM, hg, okr.1, okr.2, hq, hcc.1, hcc.2]
  rw [z1] at hrep hrepS
  have hq1 := af58 E0 E0
  rw [qE_refl] at hq1
  have h40 : ((4 : Int) == 0) = false := rfl
  have hcd := af59 r
  rw [hcc.2] at hcd
  generalize cpE (atE e q false).1 = old at hsub
  clear z1 okr hcc hc esub he hr hq hl hde
  obtain ⟨ek, en, enn, eks, rfl⟩ := Ex.ex e
  obtain ⟨rk, rn, rnn, rks, rfl⟩ := Ex.ex r
  obtain ⟨ok_, on_, onn, oks, rfl⟩ := Ex.ex old
  simp only [eE_mk, eE_E0] at hE hR hQ hsub hrep hrepS hq1 hcd
  simp +contextual -implicitDefEqProofs only [eE_mk, eG, eI, eB, eS, bne_self_eq_false, bne, Bool.not_true, Bool.not_false, D.put, D.cells, D.size, D.sizeL, D.isAg, D.at, D.sub, modeOf, noPtrs, go_sem, ↓reduceIte, Nat.reduceEqDiff, Nat.reduceAdd, Nat.reduceLeDiff, Nat.reduceMul, Nat.reduceBEq, Nat.reduceBneDiff, Nat.reduceLT, Nat.reduceSub]
  refine callQ_self ?_ (hP) ?_
  ·exact rfl
  simp +contextual -implicitDefEqProofs only [eE_mk, eG, eI, eB, eS, bne_self_eq_false, bne, Bool.not_true, Bool.not_false, D.put, D.cells, D.size, D.sizeL, D.isAg, D.at, D.sub, modeOf, noPtrs, go_sem, ↓reduceIte, Nat.reduceEqDiff, Nat.reduceAdd, Nat.reduceLeDiff, Nat.reduceMul, Nat.reduceBEq, Nat.reduceBneDiff, Nat.reduceLT, Nat.reduceSub]
  refine callQ_self ?_ (hE) ?_
  ·exact rfl
  simp +contextual -implicitDefEqProofs only [eE_mk, eG, eI, eB, eS, bne_self_eq_false, bne, Bool.not_true, Bool.not_false, D.put, D.cells, D.size, D.sizeL, D.isAg, D.at, D.sub, modeOf, noPtrs, go_sem, ↓reduceIte, Nat.reduceEqDiff, Nat.reduceAdd, Nat.reduceLeDiff, Nat.reduceMul, Nat.reduceBEq, Nat.reduceBneDiff, Nat.reduceLT, Nat.reduceSub]
  refine callQ_self ?_ (hR) ?_
  ·exact rfl
  simp +contextual -implicitDefEqProofs only [eE_mk, eG, eI, eB, eS, bne_self_eq_false, bne, Bool.not_true, Bool.not_false, D.put, D.cells, D.size, D.sizeL, D.isAg, D.at, D.sub, modeOf, noPtrs, go_sem, ↓reduceIte, Nat.reduceEqDiff, Nat.reduceAdd, Nat.reduceLeDiff, Nat.reduceMul, Nat.reduceBEq, Nat.reduceBneDiff, Nat.reduceLT, Nat.reduceSub]
  refine callQ_self ?_ (hQ) ?_
  ·exact rfl
  simp +contextual -implicitDefEqProofs only [eE_mk, eG, eI, eB, eS, bne_self_eq_false, bne, Bool.not_true, Bool.not_false, D.put, D.cells, D.size, D.sizeL, D.isAg, D.at, D.sub, modeOf, noPtrs, go_sem, ↓reduceIte, Nat.reduceEqDiff, Nat.reduceAdd, Nat.reduceLeDiff, Nat.reduceMul, Nat.reduceBEq, Nat.reduceBneDiff, Nat.reduceLT, Nat.reduceSub]
  refine callQ_self ?_ (hsub) ?_
  ·exact rfl
  simp +contextual -implicitDefEqProofs only [eE_mk, eG, eI, eB, eS, bne_self_eq_false, bne, Bool.not_true, Bool.not_false, D.put, D.cells, D.size, D.sizeL, D.isAg, D.at, D.sub, modeOf, noPtrs, go_sem, ↓reduceIte, Nat.reduceEqDiff, Nat.reduceAdd, Nat.reduceLeDiff, Nat.reduceMul, Nat.reduceBEq, Nat.reduceBneDiff, Nat.reduceLT, Nat.reduceSub]
  refine callQ_self ?_ (hrep) ?_
  ·exact rfl
  simp +contextual -implicitDefEqProofs only [eE_mk, eG, eI, eB, eS, bne_self_eq_false, bne, Bool.not_true, Bool.not_false, D.put, D.cells, D.size, D.sizeL, D.isAg, D.at, D.sub, modeOf, noPtrs, go_sem, ↓reduceIte, Nat.reduceEqDiff, Nat.reduceAdd, Nat.reduceLeDiff, Nat.reduceMul, Nat.reduceBEq, Nat.reduceBneDiff, Nat.reduceLT, Nat.reduceSub]
  refine callQ_self ?_ (hrepS) ?_
  ·exact rfl
  simp +contextual -implicitDefEqProofs only [h40, eE_mk, eG, eI, eB, eS, bne_self_eq_false, bne, Bool.not_true, Bool.not_false, D.put, D.cells, D.size, D.sizeL, D.isAg, D.at, D.sub, modeOf, noPtrs, go_sem, ↓reduceIte, Nat.reduceEqDiff, Nat.reduceAdd, Nat.reduceLeDiff, Nat.reduceMul, Nat.reduceBEq, Nat.reduceBneDiff, Nat.reduceLT, Nat.reduceSub]
  refine callQ_self ?_ (hq1) ?_
  ·exact rfl
  simp +contextual -implicitDefEqProofs only [h40, eE_mk, eG, eI, eB, eS, bne_self_eq_false, bne, Bool.not_true, Bool.not_false, D.put, D.cells, D.size, D.sizeL, D.isAg, D.at, D.sub, modeOf, noPtrs, go_sem, ↓reduceIte, Nat.reduceEqDiff, Nat.reduceAdd, Nat.reduceLeDiff, Nat.reduceMul, Nat.reduceBEq, Nat.reduceBneDiff, Nat.reduceLT, Nat.reduceSub]
  refine callQ_self ?_ (hcd) ?_
  ·exact rfl
  simp +contextual -implicitDefEqProofs only [h40, eE_mk, eG, eI, eB, eS, bne_self_eq_false, bne, Bool.not_true, Bool.not_false, D.put, D.cells, D.size, D.sizeL, D.isAg, D.at, D.sub, modeOf, noPtrs, go_sem, ↓reduceIte, Nat.reduceEqDiff, Nat.reduceAdd, Nat.reduceLeDiff, Nat.reduceMul, Nat.reduceBEq, Nat.reduceBneDiff, Nat.reduceLT, Nat.reduceSub]
end Go.Ax
