/- Contracts of functions of the seat, proved over the engine. No condition. -/
import Derived.Lib.Walk
import Derived.Below
import Derived.Test.YtjnghfepojipiaaXxE
import Derived.Test.YtjnghfepojipiaaXxD
import Derived.Test.YtjnghfepojipiaaChecked
set_option linter.unusedSimpArgs false
set_option linter.unusedVariables false
set_option linter.unnecessarySimpa false
set_option linter.unusedSectionVars false
namespace Go.Ax
set_option linter.unusedSimpArgs false
open Go.Proofs
theorem mixed : Try.prog.follows .mixedOrders = true := by kernel_rfl
theorem res53 : resF Try.prog 53 = some (6, k_f6big, [.t 2]) := by kernel_rfl
theorem af53 : K_f6big Try.prog 53 := a_f6big mixed res53
theorem res149 : resF Try.prog 149 = some (6, k_l00From, [.t 2]) := by kernel_rfl
theorem af149 : K_l00From Try.prog 149 := a_l00From mixed res149
theorem res232 : resF Try.prog 232 = some (62, k_srcNext, [.t 2]) := by kernel_rfl
theorem af232 : K_srcNext Try.prog 232 := a_srcNext mixed res232
theorem res152 : resF Try.prog 152 = some (20, k_srcPick 232, [.t 4]) := by kernel_rfl
theorem af152 : K_srcPick Try.prog 152 := a_srcPick mixed res152 af232
theorem res148 : resF Try.prog 148 = some (24, k_l01DrawSig 152, [.c 2 2 true]) := by kernel_rfl
theorem af148 : K_l01DrawSig Try.prog 148 := a_l01DrawSig mixed res148 af152
theorem res54 : resF Try.prog 54 = some (6, k_p6Sig 149 148, [.c 2 2 true]) := by kernel_rfl
theorem af54 : K_p6Sig Try.prog 54 := a_p6Sig mixed res54 af149 af148
theorem res151 : resF Try.prog 151 = some (9, k_srcOne 152, [.t 4]) := by kernel_rfl
theorem af151 : K_srcOne Try.prog 151 := a_srcOne mixed res151 af152
theorem res175 : resF Try.prog 175 = some (17, k_l05None, [.t 2]) := by kernel_rfl
theorem af175 : K_l05None Try.prog 175 := a_l05None mixed res175
theorem res159 : resF Try.prog 159 = some (82, k_l05Draw 152 151 175, [.c 6 5 true]) := by kernel_rfl
theorem af159 : K_l05Draw Try.prog 159 := a_l05Draw mixed res159 af152 af151 af175
theorem res61 : resF Try.prog 61 = some (9, k_p6Model 149 159, [.c 4 5 true]) := by kernel_rfl
theorem af61 : K_p6Model Try.prog 61 := a_p6Model mixed res61 af149 af159
theorem res277 : resF Try.prog 277 = some (66, k_genLeaf 151 152, [.c 4 3 true]) := by kernel_rfl
theorem af277 : K_genLeaf Try.prog 277 := a_genLeaf mixed res277 af151 af152
end Go.Ax
namespace Go.Proofs
open Go.RowKit Go.Lib
set_option maxHeartbeats 2000000
set_option maxRecDepth 100000
theorem push4_3 {α : Type} (h : Array α) (a b c d : α) : ((((h.push a).push b).push c).push d)[h.size + 1 + 1 + 1]? = some d := by
 have e : (((h.push a).push b).push c).size = h.size + 1 + 1 + 1 := by simp only [Array.size_push]
 rw [← e]
 exact Array.getElem?_push_size
theorem push4_2 {α : Type} (h : Array α) (a b c d : α) : ((((h.push a).push b).push c).push d)[h.size + 1 + 1]? = some c := by
 have e : ((h.push a).push b).size = h.size + 1 + 1 := by simp only [Array.size_push]
 rw [Array.getElem?_push, if_neg (by simp only [Array.size_push]; omega), ← e]
 exact Array.getElem?_push_size
theorem size_alc (w : World) (o : Obj) : (w.alloc o).heap.size = w.heap.size + 1 := by
 show (w.heap.push o).size = _
 simp only [Array.size_push]
theorem walkPair (k : Int) (a1 a2 a3 b1 b2 b3 : Value) (w : World) :
  Calls Try.prog 165 #[.int .i64 k, .agg #[a1, a2, a3], .agg #[b1, b2, b3]] w fun e w' => (∃ b t, e = .returned (.agg #[.int .i64 k, .int .i64 0, .slice (some ⟨b, 0, none⟩) 2 2]) ∧ w.heap.size ≤ b ∧ w'.heap[b]? = some (.cells #[a1, a2, a3, b1, b2, b3] t (0, 0))) ∧ Below w.heap.size w w' := by
 have mixed : Try.prog.follows .mixedOrders = true := by kernel_rfl
 go_enter Try.func165, Try.ntmps165
 go_wp2
 refine bodyPost_ret (results_cell_row rfl _ _ (w.heap.size + 1 + 1) 52 #[.int .i64 k, .int .i64 0, .slice (some ⟨w.heap.size + 1 + 1 + 1, 0, none⟩) 2 2] (0, 0) _ rfl ?_ Try.underlying52 rfl (by kernel_rfl)) rfl ?_
 ·exact push4_2 w.heap _ _ _ _
 ·refine ⟨⟨w.heap.size + 1 + 1 + 1, 52, rfl, by omega, ?_⟩, ?_⟩
  ·exact push4_3 w.heap _ _ _ _
  ·exact ((((Below.refl _ w).alloc (Nat.le_refl _) _).alloc (by simp only [size_alc]; omega) _).alloc (by simp only [size_alc]; omega) _).alloc (by simp only [size_alc]; omega) _
end Go.Proofs
namespace Go.Ax
open Go.Proofs
theorem arr3 (a : Array Value) (h : a.size = 3) : ∃ x y z, a = #[x, y, z] := by
 obtain ⟨l⟩ := a
 match l, h with
 | [x, y, z], _ => exact ⟨x, y, z, rfl⟩
theorem af165 : K_l02PairX Try.prog 165 := by
 refine ⟨⟨Try.f165, Try.func165, by kernel_rfl, by kernel_rfl⟩, fun k a b w ha hb => ?_⟩
 obtain ⟨a1, a2, a3, rfl⟩ := arr3 a ha
 obtain ⟨b1, b2, b3, rfl⟩ := arr3 b hb
 exact walkPair k a1 a2 a3 b1 b2 b3 w
theorem res231 : resF Try.prog 231 = some (97, k_genExpr 231 151 277 152 165, [.c 6 3 true]) := by kernel_rfl
theorem af231 : K_genExpr Try.prog 231 := a_genExpr mixed res231 af151 af277 af152 af165
theorem res150 : resF Try.prog 150 = some (15, k_l01Drawn 231, [.c 6 3 true]) := by kernel_rfl
theorem af150 : K_l01Drawn Try.prog 150 := a_l01Drawn mixed res150 af231
theorem res55 : resF Try.prog 55 = some (12, k_p6Expr 149 150, [.c 6 3 true]) := by kernel_rfl
theorem af55 : K_p6Expr Try.prog 55 := a_p6Expr mixed res55 af149 af150
theorem res109 : resF Try.prog 109 = some (15, k_l00In, [.t 6]) := by kernel_rfl
theorem af109 : K_l00In Try.prog 109 := a_l00In mixed res109
theorem res130 : resF Try.prog 130 = some (11, k_l01Sig 109, [.t 2]) := by kernel_rfl
theorem af130 : K_l01Sig Try.prog 130 := a_l01Sig mixed res130 af109
theorem res164 : resF Try.prog 164 = some (2, k_l02Zero, [.c 0 3 true]) := by kernel_rfl
theorem af164 : K_l02Zero Try.prog 164 := a_l02Zero mixed res164
theorem res156 : resF Try.prog 156 = some (62, k_l01Same 156, [.t 4]) := by kernel_rfl
theorem af156 : K_l01Same Try.prog 156 := a_l01Same mixed res156
theorem res278 : resFw Try.prog .sh 278 = some (53, k_summandsE 278 156, []) := by kernel_rfl
theorem af278 : K_summandsE Try.prog 278 := a_summandsE mixed res278 af156
theorem res298 : resF Try.prog 298 = some (20, k_spDecimal 298, [.t 2]) := by kernel_rfl
theorem af298 : K_spDecimal Try.prog 298 := a_spDecimal mixed res298
theorem res296 : resF Try.prog 296 = some (79, k_l01Text 296 298, [.t 2]) := by kernel_rfl
theorem af296 : K_l01Text Try.prog 296 := a_l01Text mixed res296 af298
theorem res279 : resFw Try.prog .sh 279 = some (66, k_sortedE 296, [.t 2]) := by kernel_rfl
theorem af279 : K_sortedE Try.prog 279 := a_sortedE mixed res279 af296
theorem res217 : resF Try.prog 217 = some (36, k_l01Own 217, [.c 2 3 true]) := by kernel_rfl
theorem af217 : K_l01Own Try.prog 217 := a_l01Own mixed res217
theorem res235 : resFw Try.prog .sh 235 = some (35, k_l02Sum 278 279 164 217 165, [.c 4 3 true]) := by kernel_rfl
theorem af235 : K_l02Sum Try.prog 235 := a_l02Sum mixed res235 af278 af279 af164 af217 af165
theorem res236 : resF Try.prog 236 = some (60, k_l02Dot 236 164 217 165, [.c 4 3 true]) := by kernel_rfl
theorem af236 : K_l02Dot Try.prog 236 := a_l02Dot mixed res236 af164 af217 af165
theorem res157 : resF Try.prog 157 = some (34, k_l01Condition 157 109, [.t 2]) := by kernel_rfl
theorem af157 : K_l01Condition Try.prog 157 := a_l01Condition mixed res157 af109
theorem res254 : resF Try.prog 254 = some (2, k_l02One, [.c 0 3 true]) := by kernel_rfl
theorem af254 : K_l02One Try.prog 254 := a_l02One mixed res254
theorem res237 : resF Try.prog 237 = some (17, k_l02Star 157 254 217, [.c 2 3 true]) := by kernel_rfl
theorem af237 : K_l02Star Try.prog 237 := a_l02Star mixed res237 af157 af254 af217
theorem res166 : resF Try.prog 166 = some (43, k_l02Tidy 166 235 236 237 217, [.c 2 3 true]) := by kernel_rfl
theorem af166 : K_l02Tidy Try.prog 166 := a_l02Tidy mixed res166 af235 af236 af237 af217
theorem res69 : resF Try.prog 69 = some (26, k_allWords 130 164 165 166, [.c 2 3 true, .t 3]) := by kernel_rfl
theorem af69 : K_allWords Try.prog 69 := a_allWords mixed res69 af130 af164 af165 af166
theorem res62 : resF Try.prog 62 = some (24, k_p6Points 149 151, [.t 4]) := by kernel_rfl
theorem af62 : K_p6Points Try.prog 62 := a_p6Points mixed res62 af149 af151
theorem res115 : resF Try.prog 115 = some (15, k_within, [.t 6]) := by kernel_rfl
theorem af115 : K_within Try.prog 115 := a_within mixed res115
theorem res138 : resF Try.prog 138 = some (11, k_validSig 115, [.t 2]) := by kernel_rfl
theorem af138 : K_validSig Try.prog 138 := a_validSig mixed res138 af115
theorem res248 : resF Try.prog 248 = some (24, k_isTableB, [.t 6]) := by kernel_rfl
theorem af248 : K_isTableB Try.prog 248 := a_isTableB mixed res248
theorem res195 : resF Try.prog 195 = some (46, k_isFrameB 138 115 248, [.t 8]) := by kernel_rfl
theorem af195 : K_isFrameB Try.prog 195 := a_isFrameB mixed res195 af138 af115 af248
theorem res96 : resF Try.prog 96 = some (12, k_validModel 195, [.t 2]) := by kernel_rfl
theorem af96 : K_validModel Try.prog 96 := a_validModel mixed res96 af195
theorem res276 : resF Try.prog 276 = some (15, k_kidsOf, [.t 2]) := by kernel_rfl
theorem af276 : K_kidsOf Try.prog 276 := a_kidsOf mixed res276
theorem res227 : resF Try.prog 227 = some (25, k_isCondition 227, [.t 2]) := by kernel_rfl
theorem af227 : K_isCondition Try.prog 227 := a_isCondition mixed res227
theorem res226 : resF Try.prog 226 = some (86, k_shaped 226 276 115 227, [.t 8, .t 9]) := by kernel_rfl
theorem af226 : K_shaped Try.prog 226 := a_shaped mixed res226 af276 af115 af227
theorem res139 : resF Try.prog 139 = some (14, k_isExpr 226, [.t 4]) := by kernel_rfl
theorem af139 : K_isExpr Try.prog 139 := a_isExpr mixed res139 af226
theorem res198 : resF Try.prog 198 = some (20, k_ascending, [.t 2]) := by kernel_rfl
theorem af198 : K_ascending Try.prog 198 := a_ascending mixed res198
theorem res199 : resF Try.prog 199 = some (19, k_inRange 115, [.t 4]) := by kernel_rfl
theorem af199 : K_inRange Try.prog 199 := a_inRange mixed res199 af115
theorem res99 : resF Try.prog 99 = some (13, k_isSet 198 199, [.t 4]) := by kernel_rfl
theorem af99 : K_isSet Try.prog 99 := a_isSet mixed res99 af198 af199
theorem res173 : resF Try.prog 173 = some (33, k_tableB, [.t 4]) := by kernel_rfl
theorem af173 : K_tableB Try.prog 173 := a_tableB mixed res173
theorem res257 : resF Try.prog 257 = some (30, k_composed1, [.t 6]) := by kernel_rfl
theorem af257 : K_composed1 Try.prog 257 := a_composed1 mixed res257
theorem res188 : resF Try.prog 188 = some (9, k_composed 173 257, [.t 4]) := by kernel_rfl
theorem af188 : K_composed Try.prog 188 := a_composed mixed res188 af173 af257
theorem res210 : resF Try.prog 210 = some (19, k_relation1, [.t 6]) := by kernel_rfl
theorem af210 : K_relation1 Try.prog 210 := a_relation1 mixed res210
theorem res211 : resF Try.prog 211 = some (20, k_relation2, [.t 5]) := by kernel_rfl
theorem af211 : K_relation2 Try.prog 211 := a_relation2 mixed res211
theorem res212 : resF Try.prog 212 = some (70, k_relation3, [.t 7]) := by kernel_rfl
theorem af212 : K_relation3 Try.prog 212 := a_relation3 mixed res212
theorem res118 : resF Try.prog 118 = some (60, k_relation 118 173 188 210 211 212, [.t 4]) := by kernel_rfl
theorem af118 : K_relation Try.prog 118 := a_relation mixed res118 af173 af188 af210 af211 af212
theorem res233 : resF Try.prog 233 = some (19, k_indexFI, [.t 4]) := by kernel_rfl
theorem af233 : K_indexFI Try.prog 233 := a_indexFI mixed res233
theorem res160 : resF Try.prog 160 = some (9, k_containsFI 233, [.t 4]) := by kernel_rfl
theorem af160 : K_containsFI Try.prog 160 := a_containsFI mixed res160 af233
theorem res161 : resF Try.prog 161 = some (12, k_imageOf1, [.t 4]) := by kernel_rfl
theorem af161 : K_imageOf1 Try.prog 161 := a_imageOf1 mixed res161
theorem res63 : resF Try.prog 63 = some (43, k_imImage 96 139 99 118 160 161, [.t 6, .t 7]) := by kernel_rfl
theorem af63 : K_imImage Try.prog 63 := a_imImage mixed res63 af96 af139 af99 af118 af160 af161
theorem res200 : resF Try.prog 200 = some (20, k_chosen1, [.t 6]) := by kernel_rfl
theorem af200 : K_chosen1 Try.prog 200 := a_chosen1 mixed res200
theorem res100 : resF Try.prog 100 = some (65, k_chosen 173 200, [.c 4 5 true]) := by kernel_rfl
theorem af100 : K_chosen Try.prog 100 := a_chosen mixed res100 af173 af200
theorem res70 : resF Try.prog 70 = some (23, k_imRestrict 96 99 100, [.c 4 5 true, .t 5]) := by kernel_rfl
theorem af70 : K_imRestrict Try.prog 70 := a_imRestrict mixed res70 af96 af99 af100
theorem res193 : resF Try.prog 193 = some (36, k_l05Tests 130 109, [.t 6]) := by kernel_rfl
theorem af193 : K_l05Tests Try.prog 193 := a_l05Tests mixed res193 af130 af109
theorem res91 : resF Try.prog 91 = some (82, k_l05Ok 193, [.t 2]) := by kernel_rfl
theorem af91 : K_l05Ok Try.prog 91 := a_l05Ok mixed res91 af193
theorem res167 : resF Try.prog 167 = some (39, k_l05Set 109, [.t 4]) := by kernel_rfl
theorem af167 : K_l05Set Try.prog 167 := a_l05Set mixed res167 af109
theorem res93 : resF Try.prog 93 = some (115, k_l05Pick, [.c 4 5 true]) := by kernel_rfl
theorem af93 : K_l05Pick Try.prog 93 := a_l05Pick mixed res93
theorem res71 : resF Try.prog 71 = some (20, k_spRestrict 91 167 93, [.c 4 5 true, .t 5]) := by kernel_rfl
theorem af71 : K_spRestrict Try.prog 71 := a_spRestrict mixed res71 af91 af167 af93
theorem res204 : resF Try.prog 204 = some (26, cEqB, [.t 4]) := by kernel_rfl
theorem res112 : resF Try.prog 112 = some (27, k_l05SameRows 204, [.t 4]) := by kernel_rfl
theorem af112 : K_l05SameRows Try.prog 112 := a_l05SameRows mixed res112 res204
theorem res72 : resF Try.prog 72 = some (54, k_spSameModel 112, [.t 4]) := by kernel_rfl
theorem af72 : K_spSameModel Try.prog 72 := a_spSameModel mixed res72 af112
theorem res73 : resF Try.prog 73 = some (19, k_imRelationOf 96 139 118, [.t 4, .t 5]) := by kernel_rfl
theorem af73 : K_imRelationOf Try.prog 73 := a_imRelationOf mixed res73 af96 af139 af118
theorem res74 : resF Try.prog 74 = some (23, k_f6square, [.t 4]) := by kernel_rfl
theorem af74 : K_f6square Try.prog 74 := a_f6square mixed res74

def rc10 : RC := (.seq (.reg false [⟨none, .mv 4 (.c (.sc (.bool false)))⟩]) ((.seq ((.seq (.reg false [⟨none, .mv 22 (.t 0)⟩, ⟨none, .call (some 23) 53 [(.t 22)]⟩, ⟨none, .mv 24 (.t 23)⟩, ⟨some (24, false), .mv 25 (.t 1)⟩, ⟨some (24, false), .call (some 26) 53 [(.t 25)]⟩, ⟨none, .pick 27 (.t 24) (.c (.sc (.bool true))) (.t 26)⟩]) (.cond (.t 27) ((.seq (.reg false [⟨none, .mv 4 (.c (.sc (.bool true)))⟩]) (.ret))) (.skip)))) ((.seq (.reg false [⟨none, .mv 28 (.t 0)⟩, ⟨none, .call (some 29) 54 [(.t 28)]⟩, ⟨none, .zer 5 2 (.ag [(.sc (.int .i64 0)), (.sc (.int .i64 0))])⟩, ⟨none, .st 2 (.t 5) (.t 29)⟩]) ((.seq (.reg false [⟨none, .mv 30 (.t 1)⟩, ⟨none, .ld 31 true 2 (.t 5)⟩, ⟨none, .call (some 32) 61 [(.t 30), (.t 31)]⟩, ⟨none, .zer 6 5 (.ag [(.sc (.int .i64 0)), (.sc (.int .i64 0)), (.sc (.int .i64 0)), (.ls (some true) 1 []), (.ls (some true) 1 [])])⟩, ⟨none, .st 5 (.t 6) (.t 32)⟩]) ((.seq (.reg false [⟨none, .mv 33 (.t 0)⟩, ⟨none, .ld 34 true 2 (.t 5)⟩, ⟨none, .call (some 35) 55 [(.t 33), (.t 34), (.c (.sc (.int .i64 8)))]⟩, ⟨none, .zer 7 3 (.ag [(.sc (.int .i64 0)), (.sc (.int .i64 0)), (.ls (some true) 3 [])])⟩, ⟨none, .st 3 (.t 7) (.t 35)⟩]) ((.seq (.reg false [⟨none, .ld 37 true 2 (.t 5)⟩, ⟨none, .call (some 38) 69 [(.t 37)]⟩, ⟨none, .mv 36 (.t 38)⟩, ⟨none, .ext 39 (.t 36) 0⟩, ⟨none, .ext 40 (.t 36) 1⟩, ⟨none, .zer 8 3 (.ag [(.sc (.int .i64 0)), (.sc (.int .i64 0)), (.ls (some true) 3 [])])⟩, ⟨none, .st 3 (.t 8) (.t 39)⟩, ⟨none, .mv 9 (.t 40)⟩]) ((.seq (.reg true [⟨none, .ld 42 true 5 (.t 6)⟩, ⟨none, .ld 43 true 3 (.t 8)⟩, ⟨none, .mv 44 (.t 1)⟩, ⟨none, .ld 45 true 5 (.t 6)⟩, ⟨none, .call (some 46) 62 [(.t 44), (.t 45)]⟩, ⟨none, .call (some 47) 63 [(.t 42), (.t 43), (.t 46)]⟩, ⟨none, .mv 41 (.t 47)⟩, ⟨none, .ext 48 (.t 41) 0⟩, ⟨none, .ext 49 (.t 41) 1⟩, ⟨none, .mv 10 (.t 48)⟩, ⟨none, .mv 11 (.t 49)⟩]) ((.seq ((.seq (.reg false [⟨none, .mv 50 (.t 9)⟩, ⟨none, .bin 51 .neq (.t 50) (.c (.sc (.int .i64 0)))⟩, ⟨none, .mv 52 (.t 51)⟩, ⟨some (52, false), .mv 53 (.t 11)⟩, ⟨some (52, false), .bin 54 .neq (.t 53) (.c (.sc (.int .i64 0)))⟩, ⟨none, .pick 55 (.t 52) (.c (.sc (.bool true))) (.t 54)⟩]) (.cond (.t 55) ((.seq (.reg false [⟨none, .mv 4 (.c (.sc (.bool false)))⟩]) (.ret))) (.skip)))) ((.seq (.reg false [⟨none, .ld 57 true 5 (.t 6)⟩, ⟨none, .mv 58 (.t 10)⟩, ⟨none, .call (some 59) 70 [(.t 57), (.t 58)]⟩, ⟨none, .mv 56 (.t 59)⟩, ⟨none, .ext 60 (.t 56) 0⟩, ⟨none, .ext 61 (.t 56) 1⟩, ⟨none, .zer 12 5 (.ag [(.sc (.int .i64 0)), (.sc (.int .i64 0)), (.sc (.int .i64 0)), (.ls (some true) 1 []), (.ls (some true) 1 [])])⟩, ⟨none, .st 5 (.t 12) (.t 60)⟩, ⟨none, .mv 13 (.t 61)⟩]) ((.seq (.reg false [⟨none, .ld 63 true 5 (.t 6)⟩, ⟨none, .mv 64 (.t 10)⟩, ⟨none, .call (some 65) 71 [(.t 63), (.t 64)]⟩, ⟨none, .mv 62 (.t 65)⟩, ⟨none, .ext 66 (.t 62) 0⟩, ⟨none, .ext 67 (.t 62) 1⟩, ⟨none, .zer 14 5 (.ag [(.sc (.int .i64 0)), (.sc (.int .i64 0)), (.sc (.int .i64 0)), (.ls (some true) 1 []), (.ls (some true) 1 [])])⟩, ⟨none, .st 5 (.t 14) (.t 66)⟩, ⟨none, .mv 15 (.t 67)⟩]) ((.seq ((.seq (.reg false [⟨none, .mv 68 (.t 13)⟩, ⟨none, .mv 69 (.t 15)⟩, ⟨none, .bin 70 .neq (.t 68) (.t 69)⟩, ⟨none, .mv 71 (.t 70)⟩, ⟨some (71, false), .ld 72 true 5 (.t 12)⟩, ⟨some (71, false), .ld 73 true 5 (.t 14)⟩, ⟨some (71, false), .call (some 74) 72 [(.t 72), (.t 73)]⟩, ⟨some (71, false), .un 75 .not (.t 74)⟩, ⟨none, .pick 76 (.t 71) (.c (.sc (.bool true))) (.t 75)⟩]) (.cond (.t 76) ((.seq (.reg false [⟨none, .mv 4 (.c (.sc (.bool false)))⟩]) (.ret))) (.skip)))) ((.seq ((.seq (.reg false [⟨none, .mv 77 (.t 13)⟩, ⟨none, .bin 78 .neq (.t 77) (.c (.sc (.int .i64 0)))⟩]) (.cond (.t 78) ((.seq (.reg false [⟨none, .mv 79 (.t 10)⟩, ⟨none, .len 80 (.t 79)⟩, ⟨none, .bin 81 .eql (.t 80) (.c (.sc (.int .i64 0)))⟩, ⟨none, .mv 4 (.t 81)⟩]) (.ret))) (.skip)))) ((.seq (.reg false [⟨none, .ld 83 true 5 (.t 6)⟩, ⟨none, .ld 84 true 3 (.t 7)⟩, ⟨none, .call (some 85) 73 [(.t 83), (.t 84)]⟩, ⟨none, .mv 82 (.t 85)⟩, ⟨none, .ext 86 (.t 82) 0⟩, ⟨none, .ext 87 (.t 82) 1⟩, ⟨none, .mv 16 (.t 86)⟩, ⟨none, .mv 17 (.t 87)⟩]) ((.seq (.reg false [⟨none, .ld 89 true 5 (.t 14)⟩, ⟨none, .ld 90 true 3 (.t 7)⟩, ⟨none, .call (some 91) 73 [(.t 89), (.t 90)]⟩, ⟨none, .mv 88 (.t 91)⟩, ⟨none, .ext 92 (.t 88) 0⟩, ⟨none, .ext 93 (.t 88) 1⟩, ⟨none, .mv 18 (.t 92)⟩, ⟨none, .mv 19 (.t 93)⟩]) ((.seq ((.seq (.reg false [⟨none, .mv 94 (.t 17)⟩, ⟨none, .bin 95 .neq (.t 94) (.c (.sc (.int .i64 0)))⟩, ⟨none, .mv 96 (.t 95)⟩, ⟨some (96, false), .mv 97 (.t 19)⟩, ⟨some (96, false), .bin 98 .neq (.t 97) (.c (.sc (.int .i64 0)))⟩, ⟨none, .pick 99 (.t 96) (.c (.sc (.bool true))) (.t 98)⟩, ⟨none, .mv 100 (.t 99)⟩, ⟨some (100, false), .mv 101 (.t 16)⟩, ⟨some (100, false), .fa 102 2 (.t 6)⟩, ⟨some (100, false), .ld 103 false 1 (.t 102)⟩, ⟨some (100, false), .call (some 104) 74 [(.t 101), (.t 103)]⟩, ⟨some (100, false), .un 105 .not (.t 104)⟩, ⟨none, .pick 106 (.t 100) (.c (.sc (.bool true))) (.t 105)⟩, ⟨none, .mv 107 (.t 106)⟩, ⟨some (107, false), .mv 108 (.t 18)⟩, ⟨some (107, false), .mv 109 (.t 10)⟩, ⟨some (107, false), .len 110 (.t 109)⟩, ⟨some (107, false), .call (some 111) 74 [(.t 108), (.t 110)]⟩, ⟨some (107, false), .un 112 .not (.t 111)⟩, ⟨none, .pick 113 (.t 107) (.c (.sc (.bool true))) (.t 112)⟩]) (.cond (.t 113) ((.seq (.reg false [⟨none, .mv 4 (.c (.sc (.bool false)))⟩]) (.ret))) (.skip)))) ((.seq ((.seq (.reg false [⟨none, .mv 20 (.c (.sc (.int .i64 0)))⟩]) (.blk 0 (.loop ((.seq ((.seq (.reg false [⟨none, .mv 114 (.t 20)⟩, ⟨none, .mv 115 (.t 10)⟩, ⟨none, .len 116 (.t 115)⟩, ⟨none, .bin 117 .lss (.t 114) (.t 116)⟩]) (.cond (.t 117) (.skip) (.exit 0)))) ((.seq (.blk 1 ((.seq (.reg false [⟨none, .mv 21 (.c (.sc (.int .i64 0)))⟩]) (.blk 2 (.loop ((.seq ((.seq (.reg false [⟨none, .mv 120 (.t 21)⟩, ⟨none, .mv 121 (.t 10)⟩, ⟨none, .len 122 (.t 121)⟩, ⟨none, .bin 123 .lss (.t 120) (.t 122)⟩]) (.cond (.t 123) (.skip) (.exit 2)))) ((.seq (.blk 3 ((.seq (.reg true [⟨none, .mv 126 (.t 18)⟩, ⟨none, .mv 127 (.t 20)⟩, ⟨none, .ia 128 1 (.t 126) (.t 127)⟩, ⟨none, .ld 129 false 1 (.t 128)⟩, ⟨none, .mv 130 (.t 21)⟩, ⟨none, .ia 131 1 (.t 129) (.t 130)⟩, ⟨none, .ld 132 false 1 (.t 131)⟩, ⟨none, .mv 133 (.t 16)⟩, ⟨none, .mv 134 (.t 10)⟩, ⟨none, .mv 135 (.t 20)⟩, ⟨none, .ia 136 1 (.t 134) (.t 135)⟩, ⟨none, .ld 137 false 1 (.t 136)⟩, ⟨none, .ia 138 1 (.t 133) (.t 137)⟩, ⟨none, .ld 139 false 1 (.t 138)⟩, ⟨none, .mv 140 (.t 10)⟩, ⟨none, .mv 141 (.t 21)⟩, ⟨none, .ia 142 1 (.t 140) (.t 141)⟩, ⟨none, .ld 143 false 1 (.t 142)⟩, ⟨none, .ia 144 1 (.t 139) (.t 143)⟩, ⟨none, .ld 145 false 1 (.t 144)⟩, ⟨none, .beq 146 true (.t 132) (.t 145)⟩]) (.cond (.t 146) ((.seq (.reg false [⟨none, .mv 4 (.c (.sc (.bool false)))⟩]) (.ret))) (.skip))))) (.reg false [⟨none, .mv 124 (.t 21)⟩, ⟨none, .bin 125 .add (.t 124) (.c (.sc (.int .i64 1)))⟩, ⟨none, .mv 21 (.t 125)⟩])))))))))) (.reg false [⟨none, .mv 118 (.t 20)⟩, ⟨none, .bin 119 .add (.t 118) (.c (.sc (.int .i64 1)))⟩, ⟨none, .mv 20 (.t 119)⟩]))))))))) ((.seq (.reg false [⟨none, .mv 4 (.c (.sc (.bool true)))⟩]) (.ret))))))))))))))))))))))))))))))))))
theorem res10 : resF Try.prog 10 = some (147, rc10, [.t 4]) := by kernel_rfl
theorem tabL_memJ' {α : Type} {n : Nat} {g : Nat → α} {x : α} (h : x ∈ tabL n g) : ∃ i, i < n ∧ g i = x := by
 unfold tabL at h
 rw [List.mem_map] at h
 obtain ⟨i, hi, e⟩ := h
 exact ⟨i, List.mem_range.1 hi, e⟩
theorem tab_sq' {n : Nat} {R : Rel} : tabOk (n : Int) (n : Int) (rTab n R) = true := by
 simp only [tabOk, lenIs, rTab, tabL_len, bE, bI, List.all_eq_true]
 intro r hr
 obtain ⟨i, _, rfl⟩ := tabL_memJ' hr
 simp [tabL_len]
set_option maxHeartbeats 16000000
set_option maxRecDepth 20000
theorem law (x0 x1 : SL Int) (h0 : ∀ v ∈ x0.2, 0 ≤ v ∧ v < 256) (h1 : ∀ v ∈ x1.2, 0 ≤ v ∧ v < 256) : AF Try.prog 10 [eS 1 eU x0, eS 1 eU x1] (.own (eB true)) := by
 obtain ⟨n0, c0⟩ := x0
 obtain ⟨n1, c1⟩ := x1
 simp only at h0 h1
 show AF _ _ [.ls n0 1 (c0.map eU), .ls n1 1 (c1.map eU)] _
 refine af_of_res res10 mixed rfl fun hbd => ?_
 simp (maxSteps := 5000000) +contextual -implicitDefEqProofs only [rc10, eB, go_sem, eB, ↓reduceIte, Nat.reduceEqDiff, Nat.reduceAdd]
 refine callQ_self ?_ (af53 n0 c0) ?_
 ·exact rfl
 cases hd0 : decide ((c0.length : Int) > 4096)
 case true =>
  simp (maxSteps := 5000000) +contextual -implicitDefEqProofs only [eB, go_sem, eB, ↓reduceIte, Nat.reduceEqDiff, and_self]
 simp (maxSteps := 5000000) +contextual -implicitDefEqProofs only [eB, go_sem, eB, ↓reduceIte, Nat.reduceEqDiff]
 refine callQ_self ?_ (af53 n1 c1) ?_
 ·exact rfl
 cases hd1 : decide ((c1.length : Int) > 4096)
 case true =>
  simp (maxSteps := 5000000) +contextual -implicitDefEqProofs only [eB, go_sem, eB, ↓reduceIte, Nat.reduceEqDiff, and_self]
 have hs0 : srcOk c0 := ⟨h0, by simp at hd0; omega⟩
 have hs1 : srcOk c1 := ⟨h1, by simp at hd1; omega⟩
 obtain ⟨g, hg, hP⟩ := af54 n0 c0 hs0
 obtain ⟨m, hmg, hmo, hm4, hm1, hM⟩ := af61 n1 c1 g hs1 hg
 subst hmg
 obtain ⟨e, he, hE⟩ := af55 n0 c0 m.1 8 hs0 hg (by omega) (by omega)
 obtain ⟨p, hp⟩ : ∃ p : Nat, m.2.1 = p := ⟨m.2.1.toNat, by omega⟩
 obtain ⟨s, hs, hS⟩ := af62 n1 c1 m p hs1 hp (by omega)
 obtain ⟨l, w1, w2, w3, h8, hlr, w4⟩ := restr_all hmo hp he hs
 have hW := af69 m.1 hg
 have i1 := af63 m (starA m.1.2.toNat) (some false, s)
 have i2 := af70 m (some false, l)
 have i3 := af71 m (some false, l)
 have i5 := af73 m e
 simp only [w1] at i1
 simp only [w2] at i2 i3
 rw [w3] at i5
 have i7 := af74 (rTab p (relE m e)) p
 rw [tab_sq'] at i7
 have hlm : ∀ x, x < l.length → 0 ≤ l.getD x 0 ∧ (l.getD x 0).toNat < p ∧ l.getD x 0 < (p : Int) := fun x hx => by
  have := hlr _ (getD_int (l := l) (i := x) (by omega))
  omega
 generalize starA m.1.2.toNat = ae at hW i1
 obtain ⟨ak, an, ann, aks, rfl⟩ := Ex.ex ae
 by_cases hl : l = []
 ·subst hl
  simp only [if_true] at i2 i3
  have i4 := af72 zMo
  clear w1 w2 w3 w4 he hs hg hmo
  obtain ⟨⟨g1, g2⟩, p', T, A⟩ := m
  obtain ⟨ek, en, enn, eks, rfl⟩ := Ex.ex e
  simp only [eE_mk, zMo_eq] at hE hW i1 i2 i3 i4 i5
  simp (maxSteps := 5000000) +contextual -implicitDefEqProofs only [lN, eB, go_sem, eB, ↓reduceIte, Nat.reduceEqDiff]
  refine callQ_self ?_ (hP) ?_
  ·exact rfl
  simp (maxSteps := 5000000) +contextual -implicitDefEqProofs only [eG, eI, D.put, D.size, D.sizeL, D.isAg, D.at, D.sub, modeOf, noPtrs, go_sem, eI, ↓reduceIte, Nat.reduceEqDiff, Nat.reduceAdd, Nat.reduceLeDiff, Nat.reduceLT, and_self, true_and, implies_true, bFt, List.cons_append, List.nil_append]
  refine callQ_self ?_ (hM) ?_
  ·exact rfl
  simp (maxSteps := 5000000) +contextual -implicitDefEqProofs only [eI, eM, eS, bne, bN, D.put, D.size, D.sizeL, D.isAg, D.at, D.sub, modeOf, noPtrs, go_sem, eI, ↓reduceIte, Nat.reduceEqDiff, Nat.reduceAdd, Nat.reduceLeDiff, Nat.reduceBEq, Nat.reduceLT, and_self, true_and, implies_true, bFt, List.cons_append, List.nil_append]
  refine callQ_self ?_ (hE) ?_
  ·exact rfl
  simp (maxSteps := 5000000) +contextual -implicitDefEqProofs only [bne, bN, D.put, D.size, D.sizeL, D.isAg, D.at, D.sub, modeOf, noPtrs, go_sem, ↓reduceIte, Nat.reduceEqDiff, Nat.reduceAdd, Nat.reduceLeDiff, Nat.reduceBEq, Nat.reduceLT, and_self, true_and, implies_true, bFt, List.cons_append, List.nil_append]
  refine callQ_self ?_ (hW) ?_
  ·exact rfl
  simp (maxSteps := 5000000) +contextual -implicitDefEqProofs only [eI, bne, bN, D.put, D.size, D.sizeL, D.isAg, D.at, D.sub, modeOf, noPtrs, go_sem, eI, ↓reduceIte, Nat.reduceEqDiff, Nat.reduceAdd, Nat.reduceLeDiff, Nat.reduceBEq, Nat.reduceLT, and_self, true_and, implies_true, bFt, List.cons_append, List.nil_append]
  refine callQ_self ?_ (hS) ?_
  ·exact rfl
  simp (maxSteps := 5000000) +contextual -implicitDefEqProofs only [eS, bne, bN, go_sem, ↓reduceIte, Nat.reduceEqDiff, Nat.reduceBEq, true_and, bFt, List.cons_append, List.nil_append]
  refine callQ_self ?_ (i1) ?_
  ·exact rfl
  simp (maxSteps := 5000000) +contextual -implicitDefEqProofs only [eI, eS, bne, bT, bN, D.isAg, D.at, D.sub, go_sem, eI, ↓reduceIte, Nat.reduceEqDiff, Nat.reduceAdd, Nat.reduceLeDiff, Nat.reduceBEq, Nat.reduceLT, and_self, true_and, implies_true, bFt, List.cons_append, List.nil_append]
  refine callQ_self ?_ (i2) ?_
  ·exact rfl
  simp (maxSteps := 5000000) +contextual -implicitDefEqProofs only [eI, bne, bN, D.put, D.size, D.sizeL, D.isAg, D.at, D.sub, modeOf, noPtrs, go_sem, eI, ↓reduceIte, Nat.reduceEqDiff, Nat.reduceAdd, Nat.reduceLeDiff, Nat.reduceBEq, Nat.reduceLT, and_self, true_and, implies_true, bFt, List.cons_append, List.nil_append]
  refine callQ_self ?_ (i3) ?_
  ·exact rfl
  simp (maxSteps := 5000000) +contextual -implicitDefEqProofs only [eI, bne, bT, bN, D.put, D.size, D.sizeL, D.isAg, D.at, D.sub, modeOf, noPtrs, go_sem, eI, ↓reduceIte, Nat.reduceEqDiff, Nat.reduceAdd, Nat.reduceLeDiff, Nat.reduceBEq, Nat.reduceLT, and_self, true_and, implies_true, bFt, List.cons_append, List.nil_append]
  refine callQ_self ?_ (i4) ?_
  ·exact rfl
  simp (maxSteps := 5000000) +contextual -implicitDefEqProofs only [eB, bne, bT, D.isAg, D.at, D.sub, go_sem, eB, ↓reduceIte, Nat.reduceEqDiff, Nat.reduceLeDiff, and_self, true_and, and_true, implies_true, bFt]
  all_goals exact ⟨fun _ => D.Le.sc_eq rfl, fun h => absurd h (by decide)⟩
 simp only [hl, if_false] at i2 i3
 obtain ⟨q1, q2, q3⟩ := w4 hl
 have i4 := af72 (pickMo m l)
 have i6 := af73 (pickMo m l) e
 rw [q2] at i6
 have i8 := af74 (rTab l.length (relE (pickMo m l) e)) l.length
 rw [tab_sq'] at i8
 simp only [rD_eq] at i5 i6 i7 i8
 generalize relE m e = ra at *
 generalize relE (pickMo m l) e = rb at *
 generalize pickMo m l = J at *
 clear w1 w2 w3 w4 he hs hg hmo
 obtain ⟨⟨g1, g2⟩, p', T, A⟩ := m
 simp only at hp
 subst hp
 obtain ⟨⟨jg1, jg2⟩, jp, jT, jA⟩ := J
 obtain ⟨ek, en, enn, eks, rfl⟩ := Ex.ex e
 obtain ⟨N, hN⟩ : ∃ N, N = l.length := ⟨_, rfl⟩
 simp only [eE_mk] at hE hW i1 i5 i6
 simp (maxSteps := 5000000) +contextual -implicitDefEqProofs only [lN, eB, go_sem, eB, ↓reduceIte, Nat.reduceEqDiff]
 refine callQ_self ?_ (hP) ?_
 ·exact rfl
 simp (maxSteps := 5000000) +contextual -implicitDefEqProofs only [eG, eI, D.put, D.size, D.sizeL, D.isAg, D.at, D.sub, modeOf, noPtrs, go_sem, eI, ↓reduceIte, Nat.reduceEqDiff, Nat.reduceAdd, Nat.reduceLeDiff, Nat.reduceLT, and_self, true_and, implies_true, bFt, List.cons_append, List.nil_append]
 refine callQ_self ?_ (hM) ?_
 ·exact rfl
 simp (maxSteps := 5000000) +contextual -implicitDefEqProofs only [eI, eM, eS, bne, bN, D.put, D.size, D.sizeL, D.isAg, D.at, D.sub, modeOf, noPtrs, go_sem, eI, ↓reduceIte, Nat.reduceEqDiff, Nat.reduceAdd, Nat.reduceLeDiff, Nat.reduceBEq, Nat.reduceLT, and_self, true_and, implies_true, bFt, List.cons_append, List.nil_append]
 refine callQ_self ?_ (hE) ?_
 ·exact rfl
 simp (maxSteps := 5000000) +contextual -implicitDefEqProofs only [bne, bN, D.put, D.size, D.sizeL, D.isAg, D.at, D.sub, modeOf, noPtrs, go_sem, ↓reduceIte, Nat.reduceEqDiff, Nat.reduceAdd, Nat.reduceLeDiff, Nat.reduceBEq, Nat.reduceLT, and_self, true_and, implies_true, bFt, List.cons_append, List.nil_append]
 refine callQ_self ?_ (hW) ?_
 ·exact rfl
 simp (maxSteps := 5000000) +contextual -implicitDefEqProofs only [eI, bne, bN, D.put, D.size, D.sizeL, D.isAg, D.at, D.sub, modeOf, noPtrs, go_sem, eI, ↓reduceIte, Nat.reduceEqDiff, Nat.reduceAdd, Nat.reduceLeDiff, Nat.reduceBEq, Nat.reduceLT, and_self, true_and, implies_true, bFt, List.cons_append, List.nil_append]
 refine callQ_self ?_ (hS) ?_
 ·exact rfl
 simp (maxSteps := 5000000) +contextual -implicitDefEqProofs only [eS, bne, bN, go_sem, ↓reduceIte, Nat.reduceEqDiff, Nat.reduceBEq, true_and, bFt, List.cons_append, List.nil_append]
 refine callQ_self ?_ (i1) ?_
 ·exact rfl
 simp (maxSteps := 5000000) +contextual -implicitDefEqProofs only [eI, eS, bne, bT, bN, D.isAg, D.at, D.sub, go_sem, eI, ↓reduceIte, Nat.reduceEqDiff, Nat.reduceAdd, Nat.reduceLeDiff, Nat.reduceBEq, Nat.reduceLT, and_self, true_and, implies_true, bFt, List.cons_append, List.nil_append]
 refine callQ_self ?_ (i2) ?_
 ·exact rfl
 simp (maxSteps := 5000000) +contextual -implicitDefEqProofs only [eI, eM, eS, bne, bN, D.put, D.size, D.sizeL, D.isAg, D.at, D.sub, modeOf, noPtrs, go_sem, eI, ↓reduceIte, Nat.reduceEqDiff, Nat.reduceAdd, Nat.reduceLeDiff, Nat.reduceBEq, Nat.reduceLT, and_self, true_and, implies_true, bFt, List.cons_append, List.nil_append]
 refine callQ_self ?_ (i3) ?_
 ·exact rfl
 simp (maxSteps := 5000000) +contextual -implicitDefEqProofs only [eI, eM, eS, bne, bT, bN, D.put, D.size, D.sizeL, D.isAg, D.at, D.sub, modeOf, noPtrs, go_sem, eI, ↓reduceIte, Nat.reduceEqDiff, Nat.reduceAdd, Nat.reduceLeDiff, Nat.reduceBEq, Nat.reduceLT, and_self, true_and, implies_true, bFt, List.cons_append, List.nil_append]
 refine callQ_self ?_ (i4) ?_
 ·exact rfl
 simp (maxSteps := 5000000) +contextual -implicitDefEqProofs only [eB, bne, bT, D.isAg, D.at, D.sub, go_sem, eB, ↓reduceIte, Nat.reduceEqDiff, Nat.reduceLeDiff, and_self, true_and, implies_true, bFt]
 refine callQ_self ?_ (i5) ?_
 ·exact rfl
 simp (maxSteps := 5000000) +contextual -implicitDefEqProofs only [eI, bne, bN, D.isAg, D.at, D.sub, go_sem, eI, ↓reduceIte, Nat.reduceEqDiff, Nat.reduceAdd, Nat.reduceLeDiff, Nat.reduceBEq, Nat.reduceLT, and_self, true_and, implies_true, bFt, List.cons_append, List.nil_append]
 refine callQ_self ?_ (i6) ?_
 ·exact rfl
 simp (maxSteps := 5000000) +contextual -implicitDefEqProofs only [eI, bne, bT, bN, D.isAg, D.at, D.sub, go_sem, eI, ↓reduceIte, Nat.reduceEqDiff, Nat.reduceAdd, Nat.reduceLeDiff, Nat.reduceBEq, Nat.reduceLT, and_self, true_and, implies_true, bFt, List.cons_append, List.nil_append]
 refine callQ_self ?_ (i7) ?_
 ·exact rfl
 simp (maxSteps := 5000000) +contextual -implicitDefEqProofs only [eB, bT, go_sem, eB, ↓reduceIte, Nat.reduceEqDiff]
 refine callQ_self ?_ (i8) ?_
 ·exact rfl
 simp (maxSteps := 5000000) +contextual -implicitDefEqProofs only [eB, bT, go_sem, eB, ↓reduceIte, Nat.reduceEqDiff]
 refine vc_on (α := Nat) [4, 20, 21, 114, 115, 116, 117, 118, 119, 120, 121, 122, 123, 124, 125, 126, 127, 128, 129, 130, 131, 132, 133, 134, 135, 136, 137, 138, 139, 140, 141, 142, 143, 144, 145, 146] (fun x => [(20, .im none (.sc (.int .i64 x)))]) (fun x => x ≤ l.length) (fun x => l.length - x) 0 (by simp only [subEnv, go_sem] <;> simp) (Nat.zero_le _) ?_
 intro x hx0
 by_cases hx : x < l.length
 ·simp (maxSteps := 5000000) +contextual -implicitDefEqProofs only [hx, iL, go_sem, ↓reduceIte, Nat.reduceEqDiff, decide_true, true_and, bFt, List.cons_append, List.nil_append]
  refine vc_on (α := Nat) [4, 21, 120, 121, 122, 123, 124, 125, 126, 127, 128, 129, 130, 131, 132, 133, 134, 135, 136, 137, 138, 139, 140, 141, 142, 143, 144, 145, 146] (fun y => [(21, .im none (.sc (.int .i64 y)))]) (fun y => y ≤ l.length) (fun y => l.length - y) 0 (by simp only [subEnv, go_sem] <;> simp) (Nat.zero_le _) ?_
  intro y hy0
  by_cases hy : y < l.length
  ·have hv := q3 x y hx hy
   obtain ⟨p1, p2, p3⟩ := hlm x hx
   obtain ⟨r1, r2, r3⟩ := hlm y hy
   have e1 := rD_at (R := rb) hx
   have e2 := rRow_at (f := rb x) hy
   rw [hv] at e2
   have e3 := rD_at (R := ra) p2
   have e4 := rRow_at (f := ra (l.getD x 0).toNat) r2
   have e5 := iD_at (l := l) (k := x) hx
   have e6 := iD_at (l := l) (k := y) hy
   simp (maxSteps := 5000000) +contextual -implicitDefEqProofs only [hx, hy, p1, p3, r1, r3, e1, e2, e3, e4, e5, e6, iD_map, iD_len, rD_len, rRow_len, Int.toNat_natCast, bT, D.size, D.isAg, D.sub, iL, go_sem, ↓reduceIte, Nat.reduceEqDiff, Nat.reduceLeDiff, Nat.reduceLT, decide_true, and_self, true_and, and_true, implies_true, bFt, List.cons_append, List.nil_append]
   rw [wrap_i64 (by omega) (by omega)]
   repeat (refine And.intro (by omega) ?_)
   exact ⟨y + 1, by omega, by omega, Ent.env (by simp only [subEnv, go_sem] <;> simp)⟩
  ·simp (maxSteps := 5000000) +contextual -implicitDefEqProofs only [hy, iL, go_sem, ↓reduceIte, Nat.reduceEqDiff, decide_false, true_and, bFt, List.cons_append, List.nil_append]
   rw [wrap_i64 (by omega) (by omega)]
   repeat (refine And.intro (by omega) ?_)
   exact ⟨x + 1, by omega, by omega, Ent.env (by simp only [subEnv, go_sem] <;> simp)⟩
 ·simp (maxSteps := 5000000) +contextual -implicitDefEqProofs only [hx, iL, go_sem, ↓reduceIte, Nat.reduceEqDiff, decide_false, and_self, bFt, List.cons_append, List.nil_append]
end Go.Ax
