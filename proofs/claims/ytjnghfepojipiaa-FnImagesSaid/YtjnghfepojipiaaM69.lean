/- Contracts of functions of the seat, proved over the engine. No condition. -/
import Derived.Lib.Walk
import Derived.Below
import Derived.Test.YtjnghfepojipiaaX106
import Derived.Test.YtjnghfepojipiaaChecked
set_option linter.unusedSimpArgs false
set_option linter.unusedVariables false
set_option linter.unnecessarySimpa false
namespace Go.Ax
set_option linter.unusedSimpArgs false
open Go.Proofs
theorem mixed : Try.prog.follows .mixedOrders = true := by kernel_rfl
theorem res53 : resF Try.prog 53 = some (6, k_f6big, [.t 2]) := by kernel_rfl
theorem af53 : K_f6big Try.prog 53 := a_f6big mixed res53
theorem res149 : resF Try.prog 149 = some (6, k_l00From, [.t 2]) := by kernel_rfl
theorem af149 : K_l00From Try.prog 149 := a_l00From mixed res149
theorem res232 : resF Try.prog 232 = some (62, k_srcNext, [.t 2]) := by kernel_rfl
theorem af232 : K_srcNext Try.prog 232 := a_srcNext mixed res232
theorem res152 : resF Try.prog 152 = some (20, k_srcPick 232, [.t 4]) := by kernel_rfl
theorem af152 : K_srcPick Try.prog 152 := a_srcPick mixed res152 af232
theorem res148 : resF Try.prog 148 = some (24, k_l01DrawSig 152, [.c 2 2 true]) := by kernel_rfl
theorem af148 : K_l01DrawSig Try.prog 148 := a_l01DrawSig mixed res148 af152
theorem res54 : resF Try.prog 54 = some (6, k_p6Sig 149 148, [.c 2 2 true]) := by kernel_rfl
theorem af54 : K_p6Sig Try.prog 54 := a_p6Sig mixed res54 af149 af148
theorem res151 : resF Try.prog 151 = some (9, k_srcOne 152, [.t 4]) := by kernel_rfl
theorem af151 : K_srcOne Try.prog 151 := a_srcOne mixed res151 af152
theorem res175 : resF Try.prog 175 = some (17, k_l05None, [.t 2]) := by kernel_rfl
theorem af175 : K_l05None Try.prog 175 := a_l05None mixed res175
theorem res159 : resF Try.prog 159 = some (82, k_l05Draw 152 151 175, [.c 6 5 true]) := by kernel_rfl
theorem af159 : K_l05Draw Try.prog 159 := a_l05Draw mixed res159 af152 af151 af175
theorem res61 : resF Try.prog 61 = some (9, k_p6Model 149 159, [.c 4 5 true]) := by kernel_rfl
theorem af61 : K_p6Model Try.prog 61 := a_p6Model mixed res61 af149 af159
theorem res277 : resF Try.prog 277 = some (66, k_genLeaf 151 152, [.c 4 3 true]) := by kernel_rfl
theorem af277 : K_genLeaf Try.prog 277 := a_genLeaf mixed res277 af151 af152
end Go.Ax
namespace Go.Proofs
open Go.RowKit Go.Lib
set_option maxHeartbeats 2000000
set_option maxRecDepth 100000
theorem push4_3 {α : Type} (h : Array α) (a b c d : α) : ((((h.push a).push b).push c).push d)[h.size + 1 + 1 + 1]? = some d := by
 have e : (((h.push a).push b).push c).size = h.size + 1 + 1 + 1 := by simp only [Array.size_push]
 rw [← e]
 exact Array.getElem?_push_size
theorem push4_2 {α : Type} (h : Array α) (a b c d : α) : ((((h.push a).push b).push c).push d)[h.size + 1 + 1]? = some c := by
 have e : ((h.push a).push b).size = h.size + 1 + 1 := by simp only [Array.size_push]
 rw [Array.getElem?_push, if_neg (by simp only [Array.size_push]; omega), ← e]
 exact Array.getElem?_push_size
theorem size_alc (w : World) (o : Obj) : (w.alloc o).heap.size = w.heap.size + 1 := by
 show (w.heap.push o).size = _
 simp only [Array.size_push]
theorem walkPair (k : Int) (a1 a2 a3 b1 b2 b3 : Value) (w : World) :
  Calls Try.prog 165 #[.int .i64 k, .agg #[a1, a2, a3], .agg #[b1, b2, b3]] w fun e w' => (∃ b t, e = .returned (.agg #[.int .i64 k, .int .i64 0, .slice (some ⟨b, 0, none⟩) 2 2]) ∧ w.heap.size ≤ b ∧ w'.heap[b]? = some (.cells #[a1, a2, a3, b1, b2, b3] t (0, 0))) ∧ Below w.heap.size w w' := by
 have mixed : Try.prog.follows .mixedOrders = true := by kernel_rfl
 go_enter Try.func165, Try.ntmps165
 go_wp2
 refine bodyPost_ret (results_cell_row rfl _ _ (w.heap.size + 1 + 1) 52 #[.int .i64 k, .int .i64 0, .slice (some ⟨w.heap.size + 1 + 1 + 1, 0, none⟩) 2 2] (0, 0) _ rfl ?_ Try.underlying52 rfl (by kernel_rfl)) rfl ?_
 ·exact push4_2 w.heap _ _ _ _
 ·refine ⟨⟨w.heap.size + 1 + 1 + 1, 52, rfl, by omega, ?_⟩, ?_⟩
  ·exact push4_3 w.heap _ _ _ _
  ·exact ((((Below.refl _ w).alloc (Nat.le_refl _) _).alloc (by simp only [size_alc]; omega) _).alloc (by simp only [size_alc]; omega) _).alloc (by simp only [size_alc]; omega) _
end Go.Proofs
namespace Go.Ax
open Go.Proofs
theorem arr3 (a : Array Value) (h : a.size = 3) : ∃ x y z, a = #[x, y, z] := by
 obtain ⟨l⟩ := a
 match l, h with
 | [x, y, z], _ => exact ⟨x, y, z, rfl⟩
theorem af165 : K_l02PairX Try.prog 165 := by
 refine ⟨⟨Try.f165, Try.func165, by kernel_rfl, by kernel_rfl⟩, fun k a b w ha hb => ?_⟩
 obtain ⟨a1, a2, a3, rfl⟩ := arr3 a ha
 obtain ⟨b1, b2, b3, rfl⟩ := arr3 b hb
 exact walkPair k a1 a2 a3 b1 b2 b3 w
theorem res231 : resF Try.prog 231 = some (97, k_genExpr 231 151 277 152 165, [.c 6 3 true]) := by kernel_rfl
theorem af231 : K_genExpr Try.prog 231 := a_genExpr mixed res231 af151 af277 af152 af165
theorem res150 : resF Try.prog 150 = some (15, k_l01Drawn 231, [.c 6 3 true]) := by kernel_rfl
theorem af150 : K_l01Drawn Try.prog 150 := a_l01Drawn mixed res150 af231
theorem res55 : resF Try.prog 55 = some (12, k_p6Expr 149 150, [.c 6 3 true]) := by kernel_rfl
theorem af55 : K_p6Expr Try.prog 55 := a_p6Expr mixed res55 af149 af150
theorem res62 : resF Try.prog 62 = some (24, k_p6Points 149 151, [.t 4]) := by kernel_rfl
theorem af62 : K_p6Points Try.prog 62 := a_p6Points mixed res62 af149 af151
theorem res115 : resF Try.prog 115 = some (15, k_within, [.t 6]) := by kernel_rfl
theorem af115 : K_within Try.prog 115 := a_within mixed res115
theorem res138 : resF Try.prog 138 = some (11, k_validSig 115, [.t 2]) := by kernel_rfl
theorem af138 : K_validSig Try.prog 138 := a_validSig mixed res138 af115
theorem res248 : resF Try.prog 248 = some (24, k_isTableB, [.t 6]) := by kernel_rfl
theorem af248 : K_isTableB Try.prog 248 := a_isTableB mixed res248
theorem res195 : resF Try.prog 195 = some (46, k_isFrameB 138 115 248, [.t 8]) := by kernel_rfl
theorem af195 : K_isFrameB Try.prog 195 := a_isFrameB mixed res195 af138 af115 af248
theorem res96 : resF Try.prog 96 = some (12, k_validModel 195, [.t 2]) := by kernel_rfl
theorem af96 : K_validModel Try.prog 96 := a_validModel mixed res96 af195
theorem res276 : resF Try.prog 276 = some (15, k_kidsOf, [.t 2]) := by kernel_rfl
theorem af276 : K_kidsOf Try.prog 276 := a_kidsOf mixed res276
theorem res227 : resF Try.prog 227 = some (25, k_isCondition 227, [.t 2]) := by kernel_rfl
theorem af227 : K_isCondition Try.prog 227 := a_isCondition mixed res227
theorem res226 : resF Try.prog 226 = some (86, k_shaped 226 276 115 227, [.t 8, .t 9]) := by kernel_rfl
theorem af226 : K_shaped Try.prog 226 := a_shaped mixed res226 af276 af115 af227
theorem res139 : resF Try.prog 139 = some (14, k_isExpr 226, [.t 4]) := by kernel_rfl
theorem af139 : K_isExpr Try.prog 139 := a_isExpr mixed res139 af226
theorem res198 : resF Try.prog 198 = some (20, k_ascending, [.t 2]) := by kernel_rfl
theorem af198 : K_ascending Try.prog 198 := a_ascending mixed res198
theorem res199 : resF Try.prog 199 = some (19, k_inRange 115, [.t 4]) := by kernel_rfl
theorem af199 : K_inRange Try.prog 199 := a_inRange mixed res199 af115
theorem res99 : resF Try.prog 99 = some (13, k_isSet 198 199, [.t 4]) := by kernel_rfl
theorem af99 : K_isSet Try.prog 99 := a_isSet mixed res99 af198 af199
theorem res173 : resF Try.prog 173 = some (33, k_tableB, [.t 4]) := by kernel_rfl
theorem af173 : K_tableB Try.prog 173 := a_tableB mixed res173
theorem res257 : resF Try.prog 257 = some (30, k_composed1, [.t 6]) := by kernel_rfl
theorem af257 : K_composed1 Try.prog 257 := a_composed1 mixed res257
theorem res188 : resF Try.prog 188 = some (9, k_composed 173 257, [.t 4]) := by kernel_rfl
theorem af188 : K_composed Try.prog 188 := a_composed mixed res188 af173 af257
theorem res210 : resF Try.prog 210 = some (19, k_relation1, [.t 6]) := by kernel_rfl
theorem af210 : K_relation1 Try.prog 210 := a_relation1 mixed res210
theorem res211 : resF Try.prog 211 = some (20, k_relation2, [.t 5]) := by kernel_rfl
theorem af211 : K_relation2 Try.prog 211 := a_relation2 mixed res211
theorem res212 : resF Try.prog 212 = some (70, k_relation3, [.t 7]) := by kernel_rfl
theorem af212 : K_relation3 Try.prog 212 := a_relation3 mixed res212
theorem res118 : resF Try.prog 118 = some (60, k_relation 118 173 188 210 211 212, [.t 4]) := by kernel_rfl
theorem af118 : K_relation Try.prog 118 := a_relation mixed res118 af173 af188 af210 af211 af212
theorem res233 : resF Try.prog 233 = some (19, k_indexFI, [.t 4]) := by kernel_rfl
theorem af233 : K_indexFI Try.prog 233 := a_indexFI mixed res233
theorem res160 : resF Try.prog 160 = some (9, k_containsFI 233, [.t 4]) := by kernel_rfl
theorem af160 : K_containsFI Try.prog 160 := a_containsFI mixed res160 af233
theorem res161 : resF Try.prog 161 = some (12, k_imageOf1, [.t 4]) := by kernel_rfl
theorem af161 : K_imageOf1 Try.prog 161 := a_imageOf1 mixed res161
theorem res63 : resF Try.prog 63 = some (43, k_imImage 96 139 99 118 160 161, [.t 6, .t 7]) := by kernel_rfl
theorem af63 : K_imImage Try.prog 63 := a_imImage mixed res63 af96 af139 af99 af118 af160 af161
theorem res109 : resF Try.prog 109 = some (15, k_l00In, [.t 6]) := by kernel_rfl
theorem af109 : K_l00In Try.prog 109 := a_l00In mixed res109
theorem res130 : resF Try.prog 130 = some (11, k_l01Sig 109, [.t 2]) := by kernel_rfl
theorem af130 : K_l01Sig Try.prog 130 := a_l01Sig mixed res130 af109
theorem res193 : resF Try.prog 193 = some (36, k_l05Tests 130 109, [.t 6]) := by kernel_rfl
theorem af193 : K_l05Tests Try.prog 193 := a_l05Tests mixed res193 af130 af109
theorem res91 : resF Try.prog 91 = some (82, k_l05Ok 193, [.t 2]) := by kernel_rfl
theorem af91 : K_l05Ok Try.prog 91 := a_l05Ok mixed res91 af193
theorem res221 : resF Try.prog 221 = some (30, k_l01Left 221, [.t 4]) := by kernel_rfl
theorem af221 : K_l01Left Try.prog 221 := a_l01Left mixed res221
theorem res224 : resF Try.prog 224 = some (10, k_l00Max, [.t 4]) := by kernel_rfl
theorem af224 : K_l00Max Try.prog 224 := a_l00Max mixed res224
theorem res222 : resF Try.prog 222 = some (25, k_l01Depth 222 224, [.t 2]) := by kernel_rfl
theorem af222 : K_l01Depth Try.prog 222 := a_l01Depth mixed res222 af224
theorem res275 : resF Try.prog 275 = some (15, k_l01Kids, [.t 2]) := by kernel_rfl
theorem af275 : K_l01Kids Try.prog 275 := a_l01Kids mixed res275
theorem res157 : resF Try.prog 157 = some (34, k_l01Condition 157 109, [.t 2]) := by kernel_rfl
theorem af157 : K_l01Condition Try.prog 157 := a_l01Condition mixed res157 af109
theorem res223 : resF Try.prog 223 = some (80, k_l01Tree 223 275 109 157, [.t 4]) := by kernel_rfl
theorem af223 : K_l01Tree Try.prog 223 := a_l01Tree mixed res223 af275 af109 af157
theorem res131 : resF Try.prog 131 = some (22, k_l01Ok 130 221 222 223, [.t 4]) := by kernel_rfl
theorem af131 : K_l01Ok Try.prog 131 := a_l01Ok mixed res131 af130 af221 af222 af223
theorem res167 : resF Try.prog 167 = some (39, k_l05Set 109, [.t 4]) := by kernel_rfl
theorem af167 : K_l05Set Try.prog 167 := a_l05Set mixed res167 af109
theorem res162 : resF Try.prog 162 = some (23, k_l05Asked 91 131 167, [.t 6]) := by kernel_rfl
theorem af162 : K_l05Asked Try.prog 162 := a_l05Asked mixed res162 af91 af131 af167
theorem res191 : resF Try.prog 191 = some (62, k_l05Dot 175, [.t 4]) := by kernel_rfl
theorem af191 : K_l05Dot Try.prog 191 := a_l05Dot mixed res191 af175
theorem res205 : resF Try.prog 205 = some (82, k_l05Star 175, [.t 2]) := by kernel_rfl
theorem af205 : K_l05Star Try.prog 205 := a_l05Star mixed res205 af175
theorem res113 : resF Try.prog 113 = some (201, k_l05Rel 113 175 191 205, [.t 4]) := by kernel_rfl
theorem af113 : K_l05Rel Try.prog 113 := a_l05Rel mixed res113 af175 af191 af205
theorem res64 : resF Try.prog 64 = some (53, k_spImage 162 113, [.t 6, .t 7]) := by kernel_rfl
theorem af64 : K_spImage Try.prog 64 := a_spImage mixed res64 af162 af113
theorem res234 : resF Try.prog 234 = some (19, k_indexI, [.t 4]) := by kernel_rfl
theorem af234 : K_indexI Try.prog 234 := a_indexI mixed res234
theorem res163 : resF Try.prog 163 = some (9, k_containsI 234, [.t 4]) := by kernel_rfl
theorem af163 : K_containsI Try.prog 163 := a_containsI mixed res163 af234
theorem res65 : resF Try.prog 65 = some (63, k_imSafe 96 139 99 118 163, [.t 6, .t 7]) := by kernel_rfl
theorem af65 : K_imSafe Try.prog 65 := a_imSafe mixed res65 af96 af139 af99 af118 af163
theorem res92 : resF Try.prog 92 = some (18, k_l05Has, [.t 4]) := by kernel_rfl
theorem af92 : K_l05Has Try.prog 92 := a_l05Has mixed res92
theorem res66 : resF Try.prog 66 = some (56, k_spSafe 162 113 92, [.t 6, .t 7]) := by kernel_rfl
theorem af66 : K_spSafe Try.prog 66 := a_spSafe mixed res66 af162 af113 af92
theorem res67 : resF Try.prog 67 = some (26, k_f6ints, [.t 4]) := by kernel_rfl
theorem af67 : K_f6ints Try.prog 67 := a_f6ints mixed res67
theorem res68 : resF Try.prog 68 = some (34, k_f6subset, [.t 4]) := by kernel_rfl
theorem af68 : K_f6subset Try.prog 68 := a_f6subset mixed res68

def rc9 : RC := (.seq (.reg false [⟨none, .mv 4 (.c (.sc (.bool false)))⟩]) ((.seq ((.seq (.reg false [⟨none, .mv 23 (.t 0)⟩, ⟨none, .call (some 24) 53 [(.t 23)]⟩, ⟨none, .mv 25 (.t 24)⟩, ⟨some (25, false), .mv 26 (.t 1)⟩, ⟨some (25, false), .call (some 27) 53 [(.t 26)]⟩, ⟨none, .pick 28 (.t 25) (.c (.sc (.bool true))) (.t 27)⟩]) (.cond (.t 28) ((.seq (.reg false [⟨none, .mv 4 (.c (.sc (.bool true)))⟩]) (.ret))) (.skip)))) ((.seq (.reg false [⟨none, .mv 29 (.t 0)⟩, ⟨none, .call (some 30) 54 [(.t 29)]⟩, ⟨none, .zer 5 2 (.ag [(.sc (.int .i64 0)), (.sc (.int .i64 0))])⟩, ⟨none, .st 2 (.t 5) (.t 30)⟩]) ((.seq (.reg false [⟨none, .mv 31 (.t 1)⟩, ⟨none, .ld 32 true 2 (.t 5)⟩, ⟨none, .call (some 33) 61 [(.t 31), (.t 32)]⟩, ⟨none, .zer 6 5 (.ag [(.sc (.int .i64 0)), (.sc (.int .i64 0)), (.sc (.int .i64 0)), (.ls (some true) 1 []), (.ls (some true) 1 [])])⟩, ⟨none, .st 5 (.t 6) (.t 33)⟩]) ((.seq (.reg false [⟨none, .mv 34 (.t 0)⟩, ⟨none, .ld 35 true 2 (.t 5)⟩, ⟨none, .call (some 36) 55 [(.t 34), (.t 35), (.c (.sc (.int .i64 6)))]⟩, ⟨none, .zer 7 3 (.ag [(.sc (.int .i64 0)), (.sc (.int .i64 0)), (.ls (some true) 3 [])])⟩, ⟨none, .st 3 (.t 7) (.t 36)⟩]) ((.seq (.reg false [⟨none, .mv 37 (.t 1)⟩, ⟨none, .ld 38 true 2 (.t 5)⟩, ⟨none, .call (some 39) 55 [(.t 37), (.t 38), (.c (.sc (.int .i64 6)))]⟩, ⟨none, .zer 8 3 (.ag [(.sc (.int .i64 0)), (.sc (.int .i64 0)), (.ls (some true) 3 [])])⟩, ⟨none, .st 3 (.t 8) (.t 39)⟩]) ((.seq (.reg false [⟨none, .mv 40 (.t 1)⟩, ⟨none, .ld 41 true 5 (.t 6)⟩, ⟨none, .call (some 42) 62 [(.t 40), (.t 41)]⟩, ⟨none, .mv 9 (.t 42)⟩]) ((.seq (.reg false [⟨none, .mv 43 (.t 0)⟩, ⟨none, .ld 44 true 5 (.t 6)⟩, ⟨none, .call (some 45) 62 [(.t 43), (.t 44)]⟩, ⟨none, .mv 10 (.t 45)⟩]) ((.seq (.reg false [⟨none, .ld 47 true 5 (.t 6)⟩, ⟨none, .ld 48 true 3 (.t 7)⟩, ⟨none, .mv 49 (.t 9)⟩, ⟨none, .call (some 50) 63 [(.t 47), (.t 48), (.t 49)]⟩, ⟨none, .mv 46 (.t 50)⟩, ⟨none, .ext 51 (.t 46) 0⟩, ⟨none, .ext 52 (.t 46) 1⟩, ⟨none, .mv 11 (.t 51)⟩, ⟨none, .mv 12 (.t 52)⟩]) ((.seq (.reg false [⟨none, .ld 54 true 5 (.t 6)⟩, ⟨none, .ld 55 true 3 (.t 7)⟩, ⟨none, .mv 56 (.t 9)⟩, ⟨none, .call (some 57) 64 [(.t 54), (.t 55), (.t 56)]⟩, ⟨none, .mv 53 (.t 57)⟩, ⟨none, .ext 58 (.t 53) 0⟩, ⟨none, .ext 59 (.t 53) 1⟩, ⟨none, .mv 13 (.t 58)⟩, ⟨none, .mv 14 (.t 59)⟩]) ((.seq (.reg false [⟨none, .ld 61 true 5 (.t 6)⟩, ⟨none, .ld 62 true 3 (.t 8)⟩, ⟨none, .mv 63 (.t 13)⟩, ⟨none, .call (some 64) 63 [(.t 61), (.t 62), (.t 63)]⟩, ⟨none, .mv 60 (.t 64)⟩, ⟨none, .ext 65 (.t 60) 0⟩, ⟨none, .ext 66 (.t 60) 1⟩, ⟨none, .mv 15 (.t 65)⟩, ⟨none, .mv 16 (.t 66)⟩]) ((.seq (.reg false [⟨none, .ld 68 true 5 (.t 6)⟩, ⟨none, .ld 69 true 3 (.t 7)⟩, ⟨none, .ld 70 true 3 (.t 8)⟩, ⟨none, .bs 71 3 (.ag [(.sc (.int .i64 0)), (.sc (.int .i64 0)), (.ls (some true) 3 [])]) 2 [(0, (.t 69)), (1, (.t 70))]⟩, ⟨none, .bld 72 (.ag [(.sc (.int .i64 0)), (.sc (.int .i64 0)), (.ls (some true) 3 [])]) [(0, 1, (.c (.sc (.int .i64 7)))), (2, 1, (.t 71))]⟩, ⟨none, .mv 73 (.t 9)⟩, ⟨none, .call (some 74) 63 [(.t 68), (.t 72), (.t 73)]⟩, ⟨none, .mv 67 (.t 74)⟩, ⟨none, .ext 75 (.t 67) 0⟩, ⟨none, .ext 76 (.t 67) 1⟩, ⟨none, .mv 17 (.t 75)⟩, ⟨none, .mv 18 (.t 76)⟩]) ((.seq (.reg false [⟨none, .ld 78 true 5 (.t 6)⟩, ⟨none, .ld 79 true 3 (.t 7)⟩, ⟨none, .mv 80 (.t 10)⟩, ⟨none, .call (some 81) 65 [(.t 78), (.t 79), (.t 80)]⟩, ⟨none, .mv 77 (.t 81)⟩, ⟨none, .ext 82 (.t 77) 0⟩, ⟨none, .ext 83 (.t 77) 1⟩, ⟨none, .mv 19 (.t 82)⟩, ⟨none, .mv 20 (.t 83)⟩]) ((.seq (.reg false [⟨none, .ld 85 true 5 (.t 6)⟩, ⟨none, .ld 86 true 3 (.t 7)⟩, ⟨none, .mv 87 (.t 10)⟩, ⟨none, .call (some 88) 66 [(.t 85), (.t 86), (.t 87)]⟩, ⟨none, .mv 84 (.t 88)⟩, ⟨none, .ext 89 (.t 84) 0⟩, ⟨none, .ext 90 (.t 84) 1⟩, ⟨none, .mv 21 (.t 89)⟩, ⟨none, .mv 22 (.t 90)⟩]) ((.seq ((.seq (.reg false [⟨none, .mv 91 (.t 12)⟩, ⟨none, .mv 92 (.t 14)⟩, ⟨none, .bin 93 .neq (.t 91) (.t 92)⟩, ⟨none, .mv 94 (.t 93)⟩, ⟨some (94, false), .mv 95 (.t 20)⟩, ⟨some (94, false), .mv 96 (.t 22)⟩, ⟨some (94, false), .bin 97 .neq (.t 95) (.t 96)⟩, ⟨none, .pick 98 (.t 94) (.c (.sc (.bool true))) (.t 97)⟩, ⟨none, .mv 99 (.t 98)⟩, ⟨some (99, false), .mv 100 (.t 12)⟩, ⟨some (99, false), .bin 101 .neq (.t 100) (.c (.sc (.int .i64 0)))⟩, ⟨none, .pick 102 (.t 99) (.c (.sc (.bool true))) (.t 101)⟩, ⟨none, .mv 103 (.t 102)⟩, ⟨some (103, false), .mv 104 (.t 16)⟩, ⟨some (103, false), .bin 105 .neq (.t 104) (.c (.sc (.int .i64 0)))⟩, ⟨none, .pick 106 (.t 103) (.c (.sc (.bool true))) (.t 105)⟩, ⟨none, .mv 107 (.t 106)⟩, ⟨some (107, false), .mv 108 (.t 18)⟩, ⟨some (107, false), .bin 109 .neq (.t 108) (.c (.sc (.int .i64 0)))⟩, ⟨none, .pick 110 (.t 107) (.c (.sc (.bool true))) (.t 109)⟩, ⟨none, .mv 111 (.t 110)⟩, ⟨some (111, false), .mv 112 (.t 20)⟩, ⟨some (111, false), .bin 113 .neq (.t 112) (.c (.sc (.int .i64 0)))⟩, ⟨none, .pick 114 (.t 111) (.c (.sc (.bool true))) (.t 113)⟩, ⟨none, .mv 115 (.t 114)⟩, ⟨some (115, false), .mv 116 (.t 11)⟩, ⟨some (115, false), .mv 117 (.t 13)⟩, ⟨some (115, false), .call (some 118) 67 [(.t 116), (.t 117)]⟩, ⟨some (115, false), .un 119 .not (.t 118)⟩, ⟨none, .pick 120 (.t 115) (.c (.sc (.bool true))) (.t 119)⟩, ⟨none, .mv 121 (.t 120)⟩, ⟨some (121, false), .mv 122 (.t 19)⟩, ⟨some (121, false), .mv 123 (.t 21)⟩, ⟨some (121, false), .call (some 124) 67 [(.t 122), (.t 123)]⟩, ⟨some (121, false), .un 125 .not (.t 124)⟩, ⟨none, .pick 126 (.t 121) (.c (.sc (.bool true))) (.t 125)⟩]) (.cond (.t 126) ((.seq (.reg false [⟨none, .mv 4 (.c (.sc (.bool false)))⟩]) (.ret))) (.skip)))) ((.seq (.reg false [⟨none, .mv 127 (.t 15)⟩, ⟨none, .mv 128 (.t 17)⟩, ⟨none, .call (some 129) 67 [(.t 127), (.t 128)]⟩, ⟨none, .mv 130 (.t 129)⟩, ⟨some (130, true), .mv 131 (.t 13)⟩, ⟨some (130, true), .mv 132 (.t 10)⟩, ⟨some (130, true), .call (some 133) 68 [(.t 131), (.t 132)]⟩, ⟨some (130, true), .mv 134 (.t 9)⟩, ⟨some (130, true), .mv 135 (.t 21)⟩, ⟨some (130, true), .call (some 136) 68 [(.t 134), (.t 135)]⟩, ⟨some (130, true), .beq 137 false (.t 133) (.t 136)⟩, ⟨none, .pick 138 (.t 130) (.t 137) (.c (.sc (.bool false)))⟩, ⟨none, .mv 4 (.t 138)⟩]) (.ret))))))))))))))))))))))))))))))))
theorem res9 : resF Try.prog 9 = some (139, rc9, [.t 4]) := by kernel_rfl
set_option maxHeartbeats 8000000
set_option maxRecDepth 20000
theorem law (x0 x1 : SL Int) (h0 : ∀ v ∈ x0.2, 0 ≤ v ∧ v < 256) (h1 : ∀ v ∈ x1.2, 0 ≤ v ∧ v < 256) : AF Try.prog 9 [eS 1 eU x0, eS 1 eU x1] (.own (eB true)) := by
 obtain ⟨n0, c0⟩ := x0
 obtain ⟨n1, c1⟩ := x1
 simp only at h0 h1
 show AF _ _ [.ls n0 1 (c0.map eU), .ls n1 1 (c1.map eU)] _
 refine af_of_res res9 mixed rfl fun hbd => ?_
 simp +contextual -implicitDefEqProofs only [rc9, eB, go_sem, ↓reduceIte, Nat.reduceEqDiff, Nat.reduceAdd]
 refine callQ_self ?_ (af53 n0 c0) ?_
 ·exact rfl
 cases hd0 : decide ((c0.length : Int) > 4096)
 case true =>
  simp +contextual -implicitDefEqProofs only [eB, go_sem, ↓reduceIte, Nat.reduceEqDiff]
 simp +contextual -implicitDefEqProofs only [eB, go_sem, ↓reduceIte, Nat.reduceEqDiff]
 refine callQ_self ?_ (af53 n1 c1) ?_
 ·exact rfl
 cases hd1 : decide ((c1.length : Int) > 4096)
 case true =>
  simp +contextual -implicitDefEqProofs only [eB, go_sem, ↓reduceIte, Nat.reduceEqDiff]
 have hs0 : srcOk c0 := ⟨h0, by simp at hd0; omega⟩
 have hs1 : srcOk c1 := ⟨h1, by simp at hd1; omega⟩
 obtain ⟨g, hg, hP⟩ := af54 n0 c0 hs0
 obtain ⟨m, hmg, hmo, hm4, hm1, hM⟩ := af61 n1 c1 g hs1 hg
 subst hmg
 obtain ⟨e, he, hE⟩ := af55 n0 c0 m.1 6 hs0 hg (by omega) (by omega)
 obtain ⟨f, hf, hF⟩ := af55 n1 c1 m.1 6 hs1 hg (by omega) (by omega)
 obtain ⟨p, hp⟩ : ∃ p : Nat, m.2.1 = p := ⟨m.2.1.toNat, by omega⟩
 obtain ⟨s, hs, hS⟩ := af62 n1 c1 m p hs1 hp (by omega)
 obtain ⟨t, ht, hT⟩ := af62 n0 c0 m p hs0 hp (by omega)
 obtain ⟨due, both, safe, w1, w2, w3, w4, w5⟩ := images_all hmo hp he hf hs ht
 have i1 := af63 m e (some false, s)
 have i2 := af64 m e (some false, s)
 have i3 := af63 m f (some false, due)
 have i4 := af63 m (.mk 7 0 (some false) [e, f]) (some false, s)
 have i5 := af65 m e (some false, t)
 have i6 := af66 m e (some false, t)
 have j1 := af67 (some false, due) (some false, due)
 have j2 := af67 (some false, safe) (some false, safe)
 have j3 := af67 (some false, both) (some false, both)
 have j4 := af68 (some false, due) (some false, t)
 have j5 := af68 (some false, s) (some false, safe)
 simp only [w1, w2, w3, w4] at i1 i2 i3 i4 i5 i6
 simp only [decide_true] at j1 j2 j3
 rw [← w5] at j5
 generalize (due.all fun x => hasI t x) = bb at j4 j5
 clear w1 w2 w3 w4 w5 he hf hs ht hp hm4 hm1 hmo hg
 obtain ⟨⟨g1, g2⟩, p', T, A⟩ := m
 obtain ⟨ek, en, enn, eks, rfl⟩ := Ex.ex e
 obtain ⟨fk, fn, fnn, fks, rfl⟩ := Ex.ex f
 replace hE := hE.sh
 replace hF := hF.sh
 simp only [eE_mk, List.map_cons, List.map_nil] at hE hF i1 i2 i3 i4 i5 i6
 simp +contextual -implicitDefEqProofs only [List.map_nil, eB, go_sem, ↓reduceIte, Nat.reduceEqDiff]
 refine callQ_self ?_ (hP) ?_
 ·exact rfl
 simp +contextual -implicitDefEqProofs only [eG, eI, D.put, D.size, D.sizeL, D.isAg, D.at, D.sub, modeOf, noPtrs, go_sem, ↓reduceIte, Nat.reduceEqDiff, Nat.reduceAdd, Nat.reduceLeDiff, Nat.reduceLT]
 refine callQ_self ?_ (hM) ?_
 ·exact rfl
 simp +contextual -implicitDefEqProofs only [eI, eM, eS, bne, Bool.not_false, D.put, D.size, D.sizeL, D.isAg, D.at, D.sub, modeOf, noPtrs, go_sem, ↓reduceIte, Nat.reduceEqDiff, Nat.reduceAdd, Nat.reduceLeDiff, Nat.reduceBEq, Nat.reduceLT]
 refine callQ_self ?_ (hE) ?_
 ·exact rfl
 simp +contextual -implicitDefEqProofs only [bne, Bool.not_false, D.put, D.size, D.sizeL, D.isAg, D.at, D.sub, modeOf, noPtrs, go_sem, ↓reduceIte, Nat.reduceEqDiff, Nat.reduceAdd, Nat.reduceLeDiff, Nat.reduceBEq, Nat.reduceLT]
 refine callQ_self ?_ (hF) ?_
 ·exact rfl
 simp +contextual -implicitDefEqProofs only [bne, Bool.not_false, D.put, D.size, D.sizeL, D.isAg, D.at, D.sub, modeOf, noPtrs, go_sem, ↓reduceIte, Nat.reduceEqDiff, Nat.reduceAdd, Nat.reduceLeDiff, Nat.reduceBEq, Nat.reduceLT]
 refine callQ_self ?_ (hS) ?_
 ·exact rfl
 simp +contextual -implicitDefEqProofs only [eS, bne, Bool.not_false, D.isAg, D.at, D.sub, go_sem, ↓reduceIte, Nat.reduceEqDiff, Nat.reduceLeDiff, Nat.reduceBEq]
 refine callQ_self ?_ (hT) ?_
 ·exact rfl
 simp +contextual -implicitDefEqProofs only [eS, bne, Bool.not_false, D.isAg, D.at, D.sub, go_sem, ↓reduceIte, Nat.reduceEqDiff, Nat.reduceLeDiff, Nat.reduceBEq]
 refine callQ_self ?_ (i1) ?_
 ·exact rfl
 simp +contextual -implicitDefEqProofs only [eI, eS, bne, Bool.not_false, D.isAg, D.at, D.sub, go_sem, ↓reduceIte, Nat.reduceEqDiff, Nat.reduceAdd, Nat.reduceLeDiff, Nat.reduceBEq, Nat.reduceLT]
 refine callQ_self ?_ (i2) ?_
 ·exact rfl
 simp +contextual -implicitDefEqProofs only [eI, eS, bne, Bool.not_false, D.isAg, D.at, D.sub, go_sem, ↓reduceIte, Nat.reduceEqDiff, Nat.reduceAdd, Nat.reduceLeDiff, Nat.reduceBEq, Nat.reduceLT]
 refine callQ_self ?_ (i3) ?_
 ·exact rfl
 simp (maxSteps := 5000000) +contextual -implicitDefEqProofs only [eI, eS, bne, Bool.not_false, D.size, D.sizeL, D.isAg, D.at, D.sub, go_sem, eI, ↓reduceIte, Nat.reduceEqDiff, Nat.reduceAdd, Nat.reduceLeDiff, Nat.reduceMul, Nat.reduceBEq, Nat.reduceLT, Nat.reduceSub, decide_true, and_self, true_and, and_true, implies_true, Bool.false_eq_true, List.cons_append, List.nil_append]
 refine ⟨by decide, ?_⟩
 refine callQ_self ?_ (i4) ?_
 ·exact rfl
 simp +contextual -implicitDefEqProofs only [eI, eS, bne, Bool.not_false, D.isAg, D.at, D.sub, go_sem, ↓reduceIte, Nat.reduceEqDiff, Nat.reduceAdd, Nat.reduceLeDiff, Nat.reduceBEq, Nat.reduceLT]
 refine callQ_self ?_ (i5) ?_
 ·exact rfl
 simp +contextual -implicitDefEqProofs only [eI, eS, bne, Bool.not_false, D.isAg, D.at, D.sub, go_sem, ↓reduceIte, Nat.reduceEqDiff, Nat.reduceAdd, Nat.reduceLeDiff, Nat.reduceBEq, Nat.reduceLT]
 refine callQ_self ?_ (i6) ?_
 ·exact rfl
 simp +contextual -implicitDefEqProofs only [eI, eS, bne, Bool.not_true, Bool.not_false, go_sem, ↓reduceIte, Nat.reduceEqDiff, Nat.reduceAdd, Nat.reduceBEq, Nat.reduceLT]
 refine callQ_self ?_ (j1) ?_
 ·exact rfl
 simp +contextual -implicitDefEqProofs only [eB, Bool.not_true, go_sem, ↓reduceIte, Nat.reduceEqDiff]
 refine callQ_self ?_ (j2) ?_
 ·exact rfl
 simp +contextual -implicitDefEqProofs only [eB, Bool.not_true, go_sem, ↓reduceIte, Nat.reduceEqDiff]
 refine callQ_self ?_ (j3) ?_
 ·exact rfl
 simp +contextual -implicitDefEqProofs only [eB, go_sem, ↓reduceIte, Nat.reduceEqDiff]
 refine callQ_self ?_ (j4) ?_
 ·exact rfl
 simp +contextual -implicitDefEqProofs only [eB, go_sem, ↓reduceIte, Nat.reduceEqDiff]
 refine callQ_self ?_ (j5) ?_
 ·exact rfl
 simp +contextual -implicitDefEqProofs only [eB, go_sem, ↓reduceIte, Nat.reduceEqDiff]
end Go.Ax
