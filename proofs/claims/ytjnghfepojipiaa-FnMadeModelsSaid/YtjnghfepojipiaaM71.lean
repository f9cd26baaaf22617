/- Contracts of functions of the seat, proved over the engine. No condition. -/
import Derived.Lib.Walk
import Derived.Below
import Derived.Shelf.SortM.Plain
import Derived.Test.YtjnghfepojipiaaXxE
import Derived.Test.YtjnghfepojipiaaChecked
set_option linter.unusedSimpArgs false
set_option linter.unusedVariables false
set_option linter.unnecessarySimpa false
namespace Go.Ax
set_option linter.unusedSimpArgs false
open Go.Proofs Go.Shelf
theorem mixed : Try.prog.follows .mixedOrders = true := by kernel_rfl
theorem res53 : resF Try.prog 53 = some (6, k_f6big, [.t 2]) := by kernel_rfl
theorem af53 : K_f6big Try.prog 53 := a_f6big mixed res53
theorem res149 : resF Try.prog 149 = some (6, k_l00From, [.t 2]) := by kernel_rfl
theorem af149 : K_l00From Try.prog 149 := a_l00From mixed res149
theorem res232 : resF Try.prog 232 = some (62, k_srcNext, [.t 2]) := by kernel_rfl
theorem af232 : K_srcNext Try.prog 232 := a_srcNext mixed res232
theorem res152 : resF Try.prog 152 = some (20, k_srcPick 232, [.t 4]) := by kernel_rfl
theorem af152 : K_srcPick Try.prog 152 := a_srcPick mixed res152 af232
theorem res148 : resF Try.prog 148 = some (24, k_l01DrawSig 152, [.c 2 2 true]) := by kernel_rfl
theorem af148 : K_l01DrawSig Try.prog 148 := a_l01DrawSig mixed res148 af152
theorem res54 : resF Try.prog 54 = some (6, k_p6Sig 149 148, [.c 2 2 true]) := by kernel_rfl
theorem af54 : K_p6Sig Try.prog 54 := a_p6Sig mixed res54 af149 af148
theorem res151 : resF Try.prog 151 = some (9, k_srcOne 152, [.t 4]) := by kernel_rfl
theorem af151 : K_srcOne Try.prog 151 := a_srcOne mixed res151 af152
theorem res175 : resF Try.prog 175 = some (17, k_l05None, [.t 2]) := by kernel_rfl
theorem af175 : K_l05None Try.prog 175 := a_l05None mixed res175
theorem res159 : resF Try.prog 159 = some (82, k_l05Draw 152 151 175, [.c 6 5 true]) := by kernel_rfl
theorem af159 : K_l05Draw Try.prog 159 := a_l05Draw mixed res159 af152 af151 af175
theorem res61 : resF Try.prog 61 = some (9, k_p6Model 149 159, [.c 4 5 true]) := by kernel_rfl
theorem af61 : K_p6Model Try.prog 61 := a_p6Model mixed res61 af149 af159
theorem res277 : resF Try.prog 277 = some (66, k_genLeaf 151 152, [.c 4 3 true]) := by kernel_rfl
theorem af277 : K_genLeaf Try.prog 277 := a_genLeaf mixed res277 af151 af152
end Go.Ax
namespace Go.Proofs
open Go.RowKit Go.Lib
set_option maxHeartbeats 2000000
set_option maxRecDepth 100000
theorem push4_3 {α : Type} (h : Array α) (a b c d : α) : ((((h.push a).push b).push c).push d)[h.size + 1 + 1 + 1]? = some d := by
 have e : (((h.push a).push b).push c).size = h.size + 1 + 1 + 1 := by simp only [Array.size_push]
 rw [← e]
 exact Array.getElem?_push_size
theorem push4_2 {α : Type} (h : Array α) (a b c d : α) : ((((h.push a).push b).push c).push d)[h.size + 1 + 1]? = some c := by
 have e : ((h.push a).push b).size = h.size + 1 + 1 := by simp only [Array.size_push]
 rw [Array.getElem?_push, if_neg (by simp only [Array.size_push]; omega), ← e]
 exact Array.getElem?_push_size
theorem size_alc (w : World) (o : Obj) : (w.alloc o).heap.size = w.heap.size + 1 := by
 show (w.heap.push o).size = _
 simp only [Array.size_push]
theorem walkPair (k : Int) (a1 a2 a3 b1 b2 b3 : Value) (w : World) :
  Calls Try.prog 165 #[.int .i64 k, .agg #[a1, a2, a3], .agg #[b1, b2, b3]] w fun e w' => (∃ b t, e = .returned (.agg #[.int .i64 k, .int .i64 0, .slice (some ⟨b, 0, none⟩) 2 2]) ∧ w.heap.size ≤ b ∧ w'.heap[b]? = some (.cells #[a1, a2, a3, b1, b2, b3] t (0, 0))) ∧ Below w.heap.size w w' := by
 have mixed : Try.prog.follows .mixedOrders = true := by kernel_rfl
 go_enter Try.func165, Try.ntmps165
 go_wp2
 refine bodyPost_ret (results_cell_row rfl _ _ (w.heap.size + 1 + 1) 52 #[.int .i64 k, .int .i64 0, .slice (some ⟨w.heap.size + 1 + 1 + 1, 0, none⟩) 2 2] (0, 0) _ rfl ?_ Try.underlying52 rfl (by kernel_rfl)) rfl ?_
 ·exact push4_2 w.heap _ _ _ _
 ·refine ⟨⟨w.heap.size + 1 + 1 + 1, 52, rfl, by omega, ?_⟩, ?_⟩
  ·exact push4_3 w.heap _ _ _ _
  ·exact ((((Below.refl _ w).alloc (Nat.le_refl _) _).alloc (by simp only [size_alc]; omega) _).alloc (by simp only [size_alc]; omega) _).alloc (by simp only [size_alc]; omega) _
end Go.Proofs
namespace Go.Ax
open Go.Proofs
theorem arr3 (a : Array Value) (h : a.size = 3) : ∃ x y z, a = #[x, y, z] := by
 obtain ⟨l⟩ := a
 match l, h with
 | [x, y, z], _ => exact ⟨x, y, z, rfl⟩
theorem af165 : K_l02PairX Try.prog 165 := by
 refine ⟨⟨Try.f165, Try.func165, by kernel_rfl, by kernel_rfl⟩, fun k a b w ha hb => ?_⟩
 obtain ⟨a1, a2, a3, rfl⟩ := arr3 a ha
 obtain ⟨b1, b2, b3, rfl⟩ := arr3 b hb
 exact walkPair k a1 a2 a3 b1 b2 b3 w
theorem res231 : resF Try.prog 231 = some (97, k_genExpr 231 151 277 152 165, [.c 6 3 true]) := by kernel_rfl
theorem af231 : K_genExpr Try.prog 231 := a_genExpr mixed res231 af151 af277 af152 af165
theorem res150 : resF Try.prog 150 = some (15, k_l01Drawn 231, [.c 6 3 true]) := by kernel_rfl
theorem af150 : K_l01Drawn Try.prog 150 := a_l01Drawn mixed res150 af231
theorem res55 : resF Try.prog 55 = some (12, k_p6Expr 149 150, [.c 6 3 true]) := by kernel_rfl
theorem af55 : K_p6Expr Try.prog 55 := a_p6Expr mixed res55 af149 af150
theorem res115 : resF Try.prog 115 = some (15, k_within, [.t 6]) := by kernel_rfl
theorem af115 : K_within Try.prog 115 := a_within mixed res115
theorem res138 : resF Try.prog 138 = some (11, k_validSig 115, [.t 2]) := by kernel_rfl
theorem af138 : K_validSig Try.prog 138 := a_validSig mixed res138 af115
theorem res248 : resF Try.prog 248 = some (24, k_isTableB, [.t 6]) := by kernel_rfl
theorem af248 : K_isTableB Try.prog 248 := a_isTableB mixed res248
theorem res195 : resF Try.prog 195 = some (46, k_isFrameB 138 115 248, [.t 8]) := by kernel_rfl
theorem af195 : K_isFrameB Try.prog 195 := a_isFrameB mixed res195 af138 af115 af248
theorem res96 : resF Try.prog 96 = some (12, k_validModel 195, [.t 2]) := by kernel_rfl
theorem af96 : K_validModel Try.prog 96 := a_validModel mixed res96 af195
def growRen : Go.Shelf.Ren := ⟨fun | 4 => 255 | n => n, fun | 22 => 107 | 25 => 4 | 3 => 3 | 4 => 4 | 9 => 9 | 20 => 20 | 0 => 0 | n => n, fun | n => n⟩
theorem growLay : Lays8.n4 Try.prog growRen := { mixed := by kernel_rfl, f4 := ⟨Try.f255.name, by decide, Try.func255.trans (congrArg some (by kernel_rfl))⟩, t0 := Try.underlying0, a0 := Try.isAgg0, z0 := Try.sizeOf0, v0 := Try.zeroValue0, t3 := Try.underlying3, a3 := Try.isAgg3, z3 := Try.sizeOf3, v3 := Try.zeroValue3, t4 := Try.underlying4, a4 := Try.isAgg4, z4 := Try.sizeOf4, v4 := Try.zeroValue4, t9 := Try.underlying9, a9 := Try.isAgg9, z9 := Try.sizeOf9, v9 := Try.zeroValue9, t20 := Try.underlying20, a20 := Try.isAgg20, z20 := Try.sizeOf20, v20 := Try.zeroValue20, t22 := Try.underlying107, a22 := Try.isAgg107, z22 := Try.sizeOf107, v22 := Try.zeroValue107 }
theorem growE : growRen.f 4 = 255 := rfl
theorem growO : oneB Try.prog (growRen.t 25) = true := by kernel_rfl
theorem af255 : K_growB Try.prog 255 := by
 have h := grow_K growLay growO
 rw [growE] at h
 exact h
theorem res181 : resF Try.prog 181 = some (36, k_concatB 255 (othF Try.prog 181 0) (othF Try.prog 181 1), [.t 2]) := by kernel_rfl
theorem af181 : K_concatB Try.prog 181 := a_concatB mixed res181 af255
theorem res173 : resF Try.prog 173 = some (33, k_tableB, [.t 4]) := by kernel_rfl
theorem af173 : K_tableB Try.prog 173 := a_tableB mixed res173
theorem res182 : resF Try.prog 182 = some (52, k_joinModels1, [.t 7]) := by kernel_rfl
theorem af182 : K_joinModels1 Try.prog 182 := a_joinModels1 mixed res182
theorem res84 : resF Try.prog 84 = some (77, k_imJoinModels 96 181 173 182, [.c 4 5 true, .t 5]) := by kernel_rfl
theorem af84 : K_imJoinModels Try.prog 84 := a_imJoinModels mixed res84 af96 af181 af173 af182
theorem res109 : resF Try.prog 109 = some (15, k_l00In, [.t 6]) := by kernel_rfl
theorem af109 : K_l00In Try.prog 109 := a_l00In mixed res109
theorem res130 : resF Try.prog 130 = some (11, k_l01Sig 109, [.t 2]) := by kernel_rfl
theorem af130 : K_l01Sig Try.prog 130 := a_l01Sig mixed res130 af109
theorem res193 : resF Try.prog 193 = some (36, k_l05Tests 130 109, [.t 6]) := by kernel_rfl
theorem af193 : K_l05Tests Try.prog 193 := a_l05Tests mixed res193 af130 af109
theorem res91 : resF Try.prog 91 = some (82, k_l05Ok 193, [.t 2]) := by kernel_rfl
theorem af91 : K_l05Ok Try.prog 91 := a_l05Ok mixed res91 af193
theorem res85 : resF Try.prog 85 = some (126, k_spJoinModels 91 175, [.c 4 5 true, .t 5]) := by kernel_rfl
theorem af85 : K_spJoinModels Try.prog 85 := a_spJoinModels mixed res85 af91 af175
theorem res204 : resF Try.prog 204 = some (26, cEqB, [.t 4]) := by kernel_rfl
theorem res112 : resF Try.prog 112 = some (27, k_l05SameRows 204, [.t 4]) := by kernel_rfl
theorem af112 : K_l05SameRows Try.prog 112 := a_l05SameRows mixed res112 res204
theorem res72 : resF Try.prog 72 = some (54, k_spSameModel 112, [.t 4]) := by kernel_rfl
theorem af72 : K_spSameModel Try.prog 72 := a_spSameModel mixed res72 af112
theorem res276 : resF Try.prog 276 = some (15, k_kidsOf, [.t 2]) := by kernel_rfl
theorem af276 : K_kidsOf Try.prog 276 := a_kidsOf mixed res276
theorem res227 : resF Try.prog 227 = some (25, k_isCondition 227, [.t 2]) := by kernel_rfl
theorem af227 : K_isCondition Try.prog 227 := a_isCondition mixed res227
theorem res226 : resF Try.prog 226 = some (86, k_shaped 226 276 115 227, [.t 8, .t 9]) := by kernel_rfl
theorem af226 : K_shaped Try.prog 226 := a_shaped mixed res226 af276 af115 af227
theorem res139 : resF Try.prog 139 = some (14, k_isExpr 226, [.t 4]) := by kernel_rfl
theorem af139 : K_isExpr Try.prog 139 := a_isExpr mixed res139 af226
theorem res257 : resF Try.prog 257 = some (30, k_composed1, [.t 6]) := by kernel_rfl
theorem af257 : K_composed1 Try.prog 257 := a_composed1 mixed res257
theorem res188 : resF Try.prog 188 = some (9, k_composed 173 257, [.t 4]) := by kernel_rfl
theorem af188 : K_composed Try.prog 188 := a_composed mixed res188 af173 af257
theorem res210 : resF Try.prog 210 = some (19, k_relation1, [.t 6]) := by kernel_rfl
theorem af210 : K_relation1 Try.prog 210 := a_relation1 mixed res210
theorem res211 : resF Try.prog 211 = some (20, k_relation2, [.t 5]) := by kernel_rfl
theorem af211 : K_relation2 Try.prog 211 := a_relation2 mixed res211
theorem res212 : resF Try.prog 212 = some (70, k_relation3, [.t 7]) := by kernel_rfl
theorem af212 : K_relation3 Try.prog 212 := a_relation3 mixed res212
theorem res118 : resF Try.prog 118 = some (60, k_relation 118 173 188 210 211 212, [.t 4]) := by kernel_rfl
theorem af118 : K_relation Try.prog 118 := a_relation mixed res118 af173 af188 af210 af211 af212
theorem res73 : resF Try.prog 73 = some (19, k_imRelationOf 96 139 118, [.t 4, .t 5]) := by kernel_rfl
theorem af73 : K_imRelationOf Try.prog 73 := a_imRelationOf mixed res73 af96 af139 af118
theorem res74 : resF Try.prog 74 = some (23, k_f6square, [.t 4]) := by kernel_rfl
theorem af74 : K_f6square Try.prog 74 := a_f6square mixed res74
theorem res183 : resF Try.prog 183 = some (36, k_l05Order 152, [.t 4]) := by kernel_rfl
theorem af183 : K_l05Order Try.prog 183 := a_l05Order mixed res183 af152
theorem res86 : resF Try.prog 86 = some (9, k_p6Order 149 183, [.t 4]) := by kernel_rfl
theorem af86 : K_p6Order Try.prog 86 := a_p6Order mixed res86 af149 af183
theorem res97 : resF Try.prog 97 = some (8, k_cloneI, [.t 2]) := by kernel_rfl
theorem af97 : K_cloneI Try.prog 97 := a_cloneI mixed res97
def srtRen : Go.Shelf.Ren := ⟨fun | 5 => 98 | 7 => 196 | 8 => 197 | 10 => 258 | 11 => 259 | 12 => 260 | 13 => 261 | 14 => 262 | 15 => 263 | 16 => 264 | 17 => 265 | 18 => 266 | 19 => 267 | 20 => 268 | 30 => 287 | 31 => 288 | 32 => 289 | 33 => 290 | 34 => 291 | 35 => 292 | 40 => 297 | n => n, fun | 0 => 0 | 3 => 3 | 4 => 4 | 5 => 5 | 9 => 9 | 22 => 28 | 23 => 28 | 25 => 2 | 32 => 146 | 35 => 274 | 36 => 275 | 41 => 279 | 44 => 282 | 46 => 251 | 53 => 293 | 57 => 297 | 63 => 302 | 64 => 178 | n => n, fun | n => n⟩
theorem srtLay : SlLaysM.n5 Try.prog srtRen := { mixed := by kernel_rfl, f5 := ⟨Try.f98.name, by decide, Try.func98.trans (congrArg some (by kernel_rfl))⟩, f7 := ⟨Try.f196.name, by decide, Try.func196.trans (congrArg some (by kernel_rfl))⟩, f8 := Try.func197.trans (congrArg some (by kernel_rfl)), f10 := ⟨Try.f258.name, by decide, Try.func258.trans (congrArg some (by kernel_rfl))⟩, f11 := ⟨Try.f259.name, by decide, Try.func259.trans (congrArg some (by kernel_rfl))⟩, f12 := ⟨Try.f260.name, by decide, Try.func260.trans (congrArg some (by kernel_rfl))⟩, f13 := ⟨Try.f261.name, by decide, Try.func261.trans (congrArg some (by kernel_rfl))⟩, f14 := ⟨Try.f262.name, by decide, Try.func262.trans (congrArg some (by kernel_rfl))⟩, f15 := ⟨Try.f263.name, by decide, Try.func263.trans (congrArg some (by kernel_rfl))⟩, f16 := ⟨Try.f264.name, by decide, Try.func264.trans (congrArg some (by kernel_rfl))⟩, f17 := ⟨Try.f265.name, by decide, Try.func265.trans (congrArg some (by kernel_rfl))⟩, f18 := ⟨Try.f266.name, by decide, Try.func266.trans (congrArg some (by kernel_rfl))⟩, f19 := Try.func267.trans (congrArg some (by kernel_rfl)), f20 := Try.func268.trans (congrArg some (by kernel_rfl)), f30 := ⟨Try.f287.name, by decide, Try.func287.trans (congrArg some (by kernel_rfl))⟩, f31 := Try.func288.trans (congrArg some (by kernel_rfl)), f32 := Try.func289.trans (congrArg some (by kernel_rfl)), f33 := ⟨Try.f290.name, by decide, Try.func290.trans (congrArg some (by kernel_rfl))⟩, f34 := ⟨Try.f291.name, by decide, Try.func291.trans (congrArg some (by kernel_rfl))⟩, f35 := ⟨Try.f292.name, by decide, Try.func292.trans (congrArg some (by kernel_rfl))⟩, f40 := ⟨Try.f297.name, by decide, Try.func297.trans (congrArg some (by kernel_rfl))⟩, t0 := Try.underlying0, a0 := Try.isAgg0, z0 := Try.sizeOf0, v0 := Try.zeroValue0, t3 := Try.underlying3, a3 := Try.isAgg3, z3 := Try.sizeOf3, v3 := Try.zeroValue3, t4 := Try.underlying4, a4 := Try.isAgg4, z4 := Try.sizeOf4, v4 := Try.zeroValue4, t5 := Try.underlying5, a5 := Try.isAgg5, z5 := Try.sizeOf5, v5 := Try.zeroValue5, t9 := Try.underlying9, a9 := Try.isAgg9, z9 := Try.sizeOf9, v9 := Try.zeroValue9, t22 := Try.underlying28, a22 := Try.isAgg28, z22 := Try.sizeOf28, v22 := Try.zeroValue28, t23 := Try.underlying28, a23 := Try.isAgg28, z23 := Try.sizeOf28, v23 := Try.zeroValue28, t25 := Try.underlying2, a25 := Try.isAgg2, z25 := Try.sizeOf2, v25 := Try.zeroValue2, t32 := Try.underlying146, a32 := Try.isAgg146, z32 := Try.sizeOf146, v32 := Try.zeroValue146, t35 := Try.underlying274, a35 := Try.isAgg274, z35 := Try.sizeOf274, v35 := Try.zeroValue274, t36 := Try.underlying275, a36 := Try.isAgg275, z36 := Try.sizeOf275, v36 := Try.zeroValue275, t41 := Try.underlying279, a41 := Try.isAgg279, z41 := Try.sizeOf279, v41 := Try.zeroValue279, t44 := Try.underlying282, a44 := Try.isAgg282, z44 := Try.sizeOf282, v44 := Try.zeroValue282, t46 := Try.underlying251, a46 := Try.isAgg251, z46 := Try.sizeOf251, v46 := Try.zeroValue251, t53 := Try.underlying293, a53 := Try.isAgg293, z53 := Try.sizeOf293, v53 := Try.zeroValue293, t57 := Try.underlying297, a57 := Try.isAgg297, z57 := Try.sizeOf297, v57 := Try.zeroValue297, t63 := Try.underlying302, a63 := Try.isAgg302, z63 := Try.sizeOf302, v63 := Try.zeroValue302, t64 := Try.underlying178, a64 := Try.isAgg178, z64 := Try.sizeOf178, v64 := Try.zeroValue178 }
theorem srtE : srtRen.f 5 = 98 := rfl
theorem af98 : K_sortI Try.prog 98 := sortI_ok ⟨Try.f98, Try.func98, by kernel_rfl, by kernel_rfl⟩ fun blk cap zs w hH hb hz => by
 have h := AnyM.slices_Sort_int srtLay blk 0 cap zs w hH hb hz
 rw [srtE] at h
 exact h
theorem res198 : resF Try.prog 198 = some (20, k_ascending, [.t 2]) := by kernel_rfl
theorem af198 : K_ascending Try.prog 198 := a_ascending mixed res198
theorem res199 : resF Try.prog 199 = some (19, k_inRange 115, [.t 4]) := by kernel_rfl
theorem af199 : K_inRange Try.prog 199 := a_inRange mixed res199 af115
theorem res99 : resF Try.prog 99 = some (13, k_isSet 198 199, [.t 4]) := by kernel_rfl
theorem af99 : K_isSet Try.prog 99 := a_isSet mixed res99 af198 af199
theorem res200 : resF Try.prog 200 = some (20, k_chosen1, [.t 6]) := by kernel_rfl
theorem af200 : K_chosen1 Try.prog 200 := a_chosen1 mixed res200
theorem res100 : resF Try.prog 100 = some (65, k_chosen 173 200, [.c 4 5 true]) := by kernel_rfl
theorem af100 : K_chosen Try.prog 100 := a_chosen mixed res100 af173 af200
theorem res18 : resF Try.prog 18 = some (30, k_imRenumber 96 97 98 99 100, [.c 4 5 true, .t 5]) := by kernel_rfl
theorem af18 : K_imRenumber Try.prog 18 := a_imRenumber mixed res18 af96 af97 af98 af99 af100
theorem res92 : resF Try.prog 92 = some (18, k_l05Has, [.t 4]) := by kernel_rfl
theorem af92 : K_l05Has Try.prog 92 := a_l05Has mixed res92
theorem res93 : resF Try.prog 93 = some (115, k_l05Pick, [.c 4 5 true]) := by kernel_rfl
theorem af93 : K_l05Pick Try.prog 93 := a_l05Pick mixed res93
theorem res15 : resF Try.prog 15 = some (29, k_spRenumber 91 92 93, [.c 4 5 true, .t 5]) := by kernel_rfl
theorem af15 : K_spRenumber Try.prog 15 := a_spRenumber mixed res15 af91 af92 af93

def rc12 : RC := (.seq (.reg false [⟨none, .mv 4 (.c (.sc (.bool false)))⟩]) ((.seq ((.seq (.reg false [⟨none, .mv 32 (.t 0)⟩, ⟨none, .call (some 33) 53 [(.t 32)]⟩, ⟨none, .mv 34 (.t 33)⟩, ⟨some (34, false), .mv 35 (.t 1)⟩, ⟨some (34, false), .call (some 36) 53 [(.t 35)]⟩, ⟨none, .pick 37 (.t 34) (.c (.sc (.bool true))) (.t 36)⟩]) (.cond (.t 37) ((.seq (.reg false [⟨none, .mv 4 (.c (.sc (.bool true)))⟩]) (.ret))) (.skip)))) ((.seq (.reg false [⟨none, .mv 38 (.t 0)⟩, ⟨none, .call (some 39) 54 [(.t 38)]⟩, ⟨none, .zer 5 2 (.ag [(.sc (.int .i64 0)), (.sc (.int .i64 0))])⟩, ⟨none, .st 2 (.t 5) (.t 39)⟩]) ((.seq (.reg false [⟨none, .mv 40 (.t 1)⟩, ⟨none, .ld 41 true 2 (.t 5)⟩, ⟨none, .call (some 42) 61 [(.t 40), (.t 41)]⟩, ⟨none, .zer 6 5 (.ag [(.sc (.int .i64 0)), (.sc (.int .i64 0)), (.sc (.int .i64 0)), (.ls (some true) 1 []), (.ls (some true) 1 [])])⟩, ⟨none, .st 5 (.t 6) (.t 42)⟩]) ((.seq (.reg false [⟨none, .mv 43 (.t 0)⟩, ⟨none, .ld 44 true 2 (.t 5)⟩, ⟨none, .call (some 45) 61 [(.t 43), (.t 44)]⟩, ⟨none, .zer 7 5 (.ag [(.sc (.int .i64 0)), (.sc (.int .i64 0)), (.sc (.int .i64 0)), (.ls (some true) 1 []), (.ls (some true) 1 [])])⟩, ⟨none, .st 5 (.t 7) (.t 45)⟩]) ((.seq (.reg false [⟨none, .mv 46 (.t 0)⟩, ⟨none, .ld 47 true 2 (.t 5)⟩, ⟨none, .call (some 48) 55 [(.t 46), (.t 47), (.c (.sc (.int .i64 8)))]⟩, ⟨none, .zer 8 3 (.ag [(.sc (.int .i64 0)), (.sc (.int .i64 0)), (.ls (some true) 3 [])])⟩, ⟨none, .st 3 (.t 8) (.t 48)⟩]) ((.seq (.reg false [⟨none, .ld 50 true 5 (.t 6)⟩, ⟨none, .ld 51 true 5 (.t 7)⟩, ⟨none, .call (some 52) 84 [(.t 50), (.t 51)]⟩, ⟨none, .mv 49 (.t 52)⟩, ⟨none, .ext 53 (.t 49) 0⟩, ⟨none, .ext 54 (.t 49) 1⟩, ⟨none, .zer 9 5 (.ag [(.sc (.int .i64 0)), (.sc (.int .i64 0)), (.sc (.int .i64 0)), (.ls (some true) 1 []), (.ls (some true) 1 [])])⟩, ⟨none, .st 5 (.t 9) (.t 53)⟩, ⟨none, .mv 10 (.t 54)⟩]) ((.seq (.reg false [⟨none, .ld 56 true 5 (.t 6)⟩, ⟨none, .ld 57 true 5 (.t 7)⟩, ⟨none, .call (some 58) 85 [(.t 56), (.t 57)]⟩, ⟨none, .mv 55 (.t 58)⟩, ⟨none, .ext 59 (.t 55) 0⟩, ⟨none, .ext 60 (.t 55) 1⟩, ⟨none, .zer 11 5 (.ag [(.sc (.int .i64 0)), (.sc (.int .i64 0)), (.sc (.int .i64 0)), (.ls (some true) 1 []), (.ls (some true) 1 [])])⟩, ⟨none, .st 5 (.t 11) (.t 59)⟩, ⟨none, .mv 12 (.t 60)⟩]) ((.seq ((.seq (.reg false [⟨none, .mv 61 (.t 10)⟩, ⟨none, .mv 62 (.t 12)⟩, ⟨none, .bin 63 .neq (.t 61) (.t 62)⟩, ⟨none, .mv 64 (.t 63)⟩, ⟨some (64, false), .ld 65 true 5 (.t 9)⟩, ⟨some (64, false), .ld 66 true 5 (.t 11)⟩, ⟨some (64, false), .call (some 67) 72 [(.t 65), (.t 66)]⟩, ⟨some (64, false), .un 68 .not (.t 67)⟩, ⟨none, .pick 69 (.t 64) (.c (.sc (.bool true))) (.t 68)⟩, ⟨none, .mv 70 (.t 69)⟩, ⟨some (70, false), .mv 71 (.t 10)⟩, ⟨some (70, false), .bin 72 .neq (.t 71) (.c (.sc (.int .i64 0)))⟩, ⟨none, .pick 73 (.t 70) (.c (.sc (.bool true))) (.t 72)⟩]) (.cond (.t 73) ((.seq (.reg false [⟨none, .mv 4 (.c (.sc (.bool false)))⟩]) (.ret))) (.skip)))) ((.seq (.reg false [⟨none, .ld 75 true 5 (.t 6)⟩, ⟨none, .ld 76 true 3 (.t 8)⟩, ⟨none, .call (some 77) 73 [(.t 75), (.t 76)]⟩, ⟨none, .mv 74 (.t 77)⟩, ⟨none, .ext 78 (.t 74) 0⟩, ⟨none, .ext 79 (.t 74) 1⟩, ⟨none, .mv 13 (.t 78)⟩, ⟨none, .mv 14 (.t 79)⟩]) ((.seq (.reg false [⟨none, .ld 81 true 5 (.t 7)⟩, ⟨none, .ld 82 true 3 (.t 8)⟩, ⟨none, .call (some 83) 73 [(.t 81), (.t 82)]⟩, ⟨none, .mv 80 (.t 83)⟩, ⟨none, .ext 84 (.t 80) 0⟩, ⟨none, .ext 85 (.t 80) 1⟩, ⟨none, .mv 15 (.t 84)⟩, ⟨none, .mv 16 (.t 85)⟩]) ((.seq (.reg false [⟨none, .ld 87 true 5 (.t 11)⟩, ⟨none, .ld 88 true 3 (.t 8)⟩, ⟨none, .call (some 89) 73 [(.t 87), (.t 88)]⟩, ⟨none, .mv 86 (.t 89)⟩, ⟨none, .ext 90 (.t 86) 0⟩, ⟨none, .ext 91 (.t 86) 1⟩, ⟨none, .mv 17 (.t 90)⟩, ⟨none, .mv 18 (.t 91)⟩]) ((.seq (.reg false [⟨none, .fa 92 2 (.t 6)⟩, ⟨none, .ld 93 false 1 (.t 92)⟩, ⟨none, .mv 19 (.t 93)⟩]) ((.seq ((.seq (.reg false [⟨none, .mv 94 (.t 14)⟩, ⟨none, .bin 95 .neq (.t 94) (.c (.sc (.int .i64 0)))⟩, ⟨none, .mv 96 (.t 95)⟩, ⟨some (96, false), .mv 97 (.t 16)⟩, ⟨some (96, false), .bin 98 .neq (.t 97) (.c (.sc (.int .i64 0)))⟩, ⟨none, .pick 99 (.t 96) (.c (.sc (.bool true))) (.t 98)⟩, ⟨none, .mv 100 (.t 99)⟩, ⟨some (100, false), .mv 101 (.t 18)⟩, ⟨some (100, false), .bin 102 .neq (.t 101) (.c (.sc (.int .i64 0)))⟩, ⟨none, .pick 103 (.t 100) (.c (.sc (.bool true))) (.t 102)⟩, ⟨none, .mv 104 (.t 103)⟩, ⟨some (104, false), .mv 105 (.t 13)⟩, ⟨some (104, false), .mv 106 (.t 19)⟩, ⟨some (104, false), .call (some 107) 74 [(.t 105), (.t 106)]⟩, ⟨some (104, false), .un 108 .not (.t 107)⟩, ⟨none, .pick 109 (.t 104) (.c (.sc (.bool true))) (.t 108)⟩, ⟨none, .mv 110 (.t 109)⟩, ⟨some (110, false), .mv 111 (.t 15)⟩, ⟨some (110, false), .fa 112 2 (.t 7)⟩, ⟨some (110, false), .ld 113 false 1 (.t 112)⟩, ⟨some (110, false), .call (some 114) 74 [(.t 111), (.t 113)]⟩, ⟨some (110, false), .un 115 .not (.t 114)⟩, ⟨none, .pick 116 (.t 110) (.c (.sc (.bool true))) (.t 115)⟩, ⟨none, .mv 117 (.t 116)⟩, ⟨some (117, false), .mv 118 (.t 17)⟩, ⟨some (117, false), .mv 119 (.t 19)⟩, ⟨some (117, false), .fa 120 2 (.t 7)⟩, ⟨some (117, false), .ld 121 false 1 (.t 120)⟩, ⟨some (117, false), .bin 122 .add (.t 119) (.t 121)⟩, ⟨some (117, false), .call (some 123) 74 [(.t 118), (.t 122)]⟩, ⟨some (117, false), .un 124 .not (.t 123)⟩, ⟨none, .pick 125 (.t 117) (.c (.sc (.bool true))) (.t 124)⟩]) (.cond (.t 125) ((.seq (.reg false [⟨none, .mv 4 (.c (.sc (.bool false)))⟩]) (.ret))) (.skip)))) ((.seq ((.seq (.reg false [⟨none, .mv 20 (.c (.sc (.int .i64 0)))⟩]) (.blk 0 (.loop ((.seq ((.seq (.reg false [⟨none, .mv 126 (.t 20)⟩, ⟨none, .mv 127 (.t 19)⟩, ⟨none, .fa 128 2 (.t 7)⟩, ⟨none, .ld 129 false 1 (.t 128)⟩, ⟨none, .bin 130 .add (.t 127) (.t 129)⟩, ⟨none, .bin 131 .lss (.t 126) (.t 130)⟩]) (.cond (.t 131) (.skip) (.exit 0)))) ((.seq (.blk 1 ((.seq (.reg false [⟨none, .mv 21 (.c (.sc (.int .i64 0)))⟩]) (.blk 2 (.loop ((.seq ((.seq (.reg false [⟨none, .mv 134 (.t 21)⟩, ⟨none, .mv 135 (.t 19)⟩, ⟨none, .fa 136 2 (.t 7)⟩, ⟨none, .ld 137 false 1 (.t 136)⟩, ⟨none, .bin 138 .add (.t 135) (.t 137)⟩, ⟨none, .bin 139 .lss (.t 134) (.t 138)⟩]) (.cond (.t 139) (.skip) (.exit 2)))) ((.seq (.blk 3 ((.seq (.reg false [⟨none, .mv 22 (.c (.sc (.bool false)))⟩]) ((.seq ((.seq (.reg false [⟨none, .mv 142 (.t 20)⟩, ⟨none, .mv 143 (.t 19)⟩, ⟨none, .bin 144 .lss (.t 142) (.t 143)⟩, ⟨none, .mv 145 (.t 144)⟩, ⟨some (145, true), .mv 146 (.t 21)⟩, ⟨some (145, true), .mv 147 (.t 19)⟩, ⟨some (145, true), .bin 148 .lss (.t 146) (.t 147)⟩, ⟨none, .pick 149 (.t 145) (.t 148) (.c (.sc (.bool false)))⟩]) (.cond (.t 149) (.reg false [⟨none, .mv 150 (.t 13)⟩, ⟨none, .mv 151 (.t 20)⟩, ⟨none, .ia 152 1 (.t 150) (.t 151)⟩, ⟨none, .ld 153 false 1 (.t 152)⟩, ⟨none, .mv 154 (.t 21)⟩, ⟨none, .ia 155 1 (.t 153) (.t 154)⟩, ⟨none, .ld 156 false 1 (.t 155)⟩, ⟨none, .mv 22 (.t 156)⟩]) (.skip)))) ((.seq ((.seq (.reg false [⟨none, .mv 157 (.t 20)⟩, ⟨none, .mv 158 (.t 19)⟩, ⟨none, .bin 159 .geq (.t 157) (.t 158)⟩, ⟨none, .mv 160 (.t 159)⟩, ⟨some (160, true), .mv 161 (.t 21)⟩, ⟨some (160, true), .mv 162 (.t 19)⟩, ⟨some (160, true), .bin 163 .geq (.t 161) (.t 162)⟩, ⟨none, .pick 164 (.t 160) (.t 163) (.c (.sc (.bool false)))⟩]) (.cond (.t 164) (.reg false [⟨none, .mv 165 (.t 15)⟩, ⟨none, .mv 166 (.t 20)⟩, ⟨none, .mv 167 (.t 19)⟩, ⟨none, .bin 168 .sub (.t 166) (.t 167)⟩, ⟨none, .ia 169 1 (.t 165) (.t 168)⟩, ⟨none, .ld 170 false 1 (.t 169)⟩, ⟨none, .mv 171 (.t 21)⟩, ⟨none, .mv 172 (.t 19)⟩, ⟨none, .bin 173 .sub (.t 171) (.t 172)⟩, ⟨none, .ia 174 1 (.t 170) (.t 173)⟩, ⟨none, .ld 175 false 1 (.t 174)⟩, ⟨none, .mv 22 (.t 175)⟩]) (.skip)))) ((.seq (.reg false [⟨none, .mv 176 (.t 17)⟩, ⟨none, .mv 177 (.t 20)⟩, ⟨none, .ia 178 1 (.t 176) (.t 177)⟩, ⟨none, .ld 179 false 1 (.t 178)⟩, ⟨none, .mv 180 (.t 21)⟩, ⟨none, .ia 181 1 (.t 179) (.t 180)⟩, ⟨none, .ld 182 false 1 (.t 181)⟩, ⟨none, .mv 183 (.t 22)⟩, ⟨none, .beq 184 true (.t 182) (.t 183)⟩]) (.cond (.t 184) ((.seq (.reg false [⟨none, .mv 4 (.c (.sc (.bool false)))⟩]) (.ret))) (.skip))))))))))) (.reg false [⟨none, .mv 140 (.t 21)⟩, ⟨none, .bin 141 .add (.t 140) (.c (.sc (.int .i64 1)))⟩, ⟨none, .mv 21 (.t 141)⟩])))))))))) (.reg false [⟨none, .mv 132 (.t 20)⟩, ⟨none, .bin 133 .add (.t 132) (.c (.sc (.int .i64 1)))⟩, ⟨none, .mv 20 (.t 133)⟩]))))))))) ((.seq (.reg false [⟨none, .mv 185 (.t 1)⟩, ⟨none, .mv 186 (.t 19)⟩, ⟨none, .call (some 187) 86 [(.t 185), (.t 186)]⟩, ⟨none, .mv 23 (.t 187)⟩]) ((.seq (.reg false [⟨none, .ld 189 true 5 (.t 6)⟩, ⟨none, .mv 190 (.t 23)⟩, ⟨none, .call (some 191) 18 [(.t 189), (.t 190)]⟩, ⟨none, .mv 188 (.t 191)⟩, ⟨none, .ext 192 (.t 188) 0⟩, ⟨none, .ext 193 (.t 188) 1⟩, ⟨none, .zer 24 5 (.ag [(.sc (.int .i64 0)), (.sc (.int .i64 0)), (.sc (.int .i64 0)), (.ls (some true) 1 []), (.ls (some true) 1 [])])⟩, ⟨none, .st 5 (.t 24) (.t 192)⟩, ⟨none, .mv 25 (.t 193)⟩]) ((.seq (.reg false [⟨none, .ld 195 true 5 (.t 6)⟩, ⟨none, .mv 196 (.t 23)⟩, ⟨none, .call (some 197) 15 [(.t 195), (.t 196)]⟩, ⟨none, .mv 194 (.t 197)⟩, ⟨none, .ext 198 (.t 194) 0⟩, ⟨none, .ext 199 (.t 194) 1⟩, ⟨none, .zer 26 5 (.ag [(.sc (.int .i64 0)), (.sc (.int .i64 0)), (.sc (.int .i64 0)), (.ls (some true) 1 []), (.ls (some true) 1 [])])⟩, ⟨none, .st 5 (.t 26) (.t 198)⟩, ⟨none, .mv 27 (.t 199)⟩]) ((.seq (.reg false [⟨none, .ld 201 true 5 (.t 26)⟩, ⟨none, .ld 202 true 3 (.t 8)⟩, ⟨none, .call (some 203) 73 [(.t 201), (.t 202)]⟩, ⟨none, .mv 200 (.t 203)⟩, ⟨none, .ext 204 (.t 200) 0⟩, ⟨none, .ext 205 (.t 200) 1⟩, ⟨none, .mv 28 (.t 204)⟩, ⟨none, .mv 29 (.t 205)⟩]) ((.seq ((.seq (.reg false [⟨none, .mv 206 (.t 25)⟩, ⟨none, .mv 207 (.t 27)⟩, ⟨none, .bin 208 .neq (.t 206) (.t 207)⟩, ⟨none, .mv 209 (.t 208)⟩, ⟨some (209, false), .ld 210 true 5 (.t 24)⟩, ⟨some (209, false), .ld 211 true 5 (.t 26)⟩, ⟨some (209, false), .call (some 212) 72 [(.t 210), (.t 211)]⟩, ⟨some (209, false), .un 213 .not (.t 212)⟩, ⟨none, .pick 214 (.t 209) (.c (.sc (.bool true))) (.t 213)⟩, ⟨none, .mv 215 (.t 214)⟩, ⟨some (215, false), .mv 216 (.t 29)⟩, ⟨some (215, false), .bin 217 .neq (.t 216) (.c (.sc (.int .i64 0)))⟩, ⟨none, .pick 218 (.t 215) (.c (.sc (.bool true))) (.t 217)⟩, ⟨none, .mv 219 (.t 218)⟩, ⟨some (219, false), .mv 220 (.t 28)⟩, ⟨some (219, false), .mv 221 (.t 19)⟩, ⟨some (219, false), .call (some 222) 74 [(.t 220), (.t 221)]⟩, ⟨some (219, false), .un 223 .not (.t 222)⟩, ⟨none, .pick 224 (.t 219) (.c (.sc (.bool true))) (.t 223)⟩]) (.cond (.t 224) ((.seq (.reg false [⟨none, .mv 4 (.c (.sc (.bool false)))⟩]) (.ret))) (.skip)))) ((.seq ((.seq (.reg false [⟨none, .mv 30 (.c (.sc (.int .i64 0)))⟩]) (.blk 4 (.loop ((.seq ((.seq (.reg false [⟨none, .mv 225 (.t 30)⟩, ⟨none, .mv 226 (.t 19)⟩, ⟨none, .bin 227 .lss (.t 225) (.t 226)⟩]) (.cond (.t 227) (.skip) (.exit 4)))) ((.seq (.blk 5 ((.seq (.reg false [⟨none, .mv 31 (.c (.sc (.int .i64 0)))⟩]) (.blk 6 (.loop ((.seq ((.seq (.reg false [⟨none, .mv 230 (.t 31)⟩, ⟨none, .mv 231 (.t 19)⟩, ⟨none, .bin 232 .lss (.t 230) (.t 231)⟩]) (.cond (.t 232) (.skip) (.exit 6)))) ((.seq (.blk 7 ((.seq (.reg true [⟨none, .mv 235 (.t 28)⟩, ⟨none, .mv 236 (.t 30)⟩, ⟨none, .ia 237 1 (.t 235) (.t 236)⟩, ⟨none, .ld 238 false 1 (.t 237)⟩, ⟨none, .mv 239 (.t 31)⟩, ⟨none, .ia 240 1 (.t 238) (.t 239)⟩, ⟨none, .ld 241 false 1 (.t 240)⟩, ⟨none, .mv 242 (.t 13)⟩, ⟨none, .mv 243 (.t 23)⟩, ⟨none, .mv 244 (.t 30)⟩, ⟨none, .ia 245 1 (.t 243) (.t 244)⟩, ⟨none, .ld 246 false 1 (.t 245)⟩, ⟨none, .ia 247 1 (.t 242) (.t 246)⟩, ⟨none, .ld 248 false 1 (.t 247)⟩, ⟨none, .mv 249 (.t 23)⟩, ⟨none, .mv 250 (.t 31)⟩, ⟨none, .ia 251 1 (.t 249) (.t 250)⟩, ⟨none, .ld 252 false 1 (.t 251)⟩, ⟨none, .ia 253 1 (.t 248) (.t 252)⟩, ⟨none, .ld 254 false 1 (.t 253)⟩, ⟨none, .beq 255 true (.t 241) (.t 254)⟩]) (.cond (.t 255) ((.seq (.reg false [⟨none, .mv 4 (.c (.sc (.bool false)))⟩]) (.ret))) (.skip))))) (.reg false [⟨none, .mv 233 (.t 31)⟩, ⟨none, .bin 234 .add (.t 233) (.c (.sc (.int .i64 1)))⟩, ⟨none, .mv 31 (.t 234)⟩])))))))))) (.reg false [⟨none, .mv 228 (.t 30)⟩, ⟨none, .bin 229 .add (.t 228) (.c (.sc (.int .i64 1)))⟩, ⟨none, .mv 30 (.t 229)⟩]))))))))) ((.seq (.reg false [⟨none, .mv 4 (.c (.sc (.bool true)))⟩]) (.ret))))))))))))))))))))))))))))))))))))))))))))
theorem res12 : resF Try.prog 12 = some (256, rc12, [.t 4]) := by kernel_rfl
set_option maxHeartbeats 16000000
set_option maxRecDepth 20000
theorem law (x0 x1 : SL Int) (h0 : ∀ v ∈ x0.2, 0 ≤ v ∧ v < 256) (h1 : ∀ v ∈ x1.2, 0 ≤ v ∧ v < 256) : AF Try.prog 12 [eS 1 eU x0, eS 1 eU x1] (.own (eB true)) := by
 obtain ⟨n0, c0⟩ := x0
 obtain ⟨n1, c1⟩ := x1
 simp only at h0 h1
 show AF _ _ [.ls n0 1 (c0.map eU), .ls n1 1 (c1.map eU)] _
 refine af_of_res res12 mixed rfl fun hbd => ?_
 simp (maxSteps := 5000000) +contextual -implicitDefEqProofs only [rc12, eB, go_sem, eB, ↓reduceIte, Nat.reduceEqDiff, Nat.reduceAdd]
 refine callQ_self ?_ (af53 n0 c0) ?_
 ·exact rfl
 cases hd0 : decide ((c0.length : Int) > 4096)
 case true =>
  simp (maxSteps := 5000000) +contextual -implicitDefEqProofs only [eB, go_sem, eB, ↓reduceIte, Nat.reduceEqDiff, and_self]
 simp (maxSteps := 5000000) +contextual -implicitDefEqProofs only [eB, go_sem, eB, ↓reduceIte, Nat.reduceEqDiff]
 refine callQ_self ?_ (af53 n1 c1) ?_
 ·exact rfl
 cases hd1 : decide ((c1.length : Int) > 4096)
 case true =>
  simp (maxSteps := 5000000) +contextual -implicitDefEqProofs only [eB, go_sem, eB, ↓reduceIte, Nat.reduceEqDiff, and_self]
 have hs0 : srcOk c0 := ⟨h0, by simp at hd0; omega⟩
 have hs1 : srcOk c1 := ⟨h1, by simp at hd1; omega⟩
 obtain ⟨g, hg, hP⟩ := af54 n0 c0 hs0
 obtain ⟨a, hag, hao, ha4, ha1, hA⟩ := af61 n1 c1 g hs1 hg
 obtain ⟨b, hbg, hbo, hb4, hb1, hB⟩ := af61 n0 c0 g hs0 hg
 obtain ⟨e, he, hE⟩ := af55 n0 c0 g 8 hs0 hg (by omega) (by omega)
 obtain ⟨m1, hm1⟩ : ∃ p : Nat, a.2.1 = p := ⟨a.2.1.toNat, by omega⟩
 obtain ⟨m2, hm2⟩ : ∃ p : Nat, b.2.1 = p := ⟨b.2.1.toNat, by omega⟩
 have k1 : m1 ≤ 4 := by omega
 have k2 : m2 ≤ 4 := by omega
 obtain ⟨l, hl, hL⟩ := af86 n1 c1 m1 hs1 (by omega)
 have hlen : l.length = m1 := by rw [hl.length_eq, ints_len]
 have hlm : ∀ x, x < m1 → 0 ≤ l.getD x 0 ∧ (l.getD x 0).toNat < m1 ∧ l.getD x 0 < (m1 : Int) := fun x hx => by
  have := ints_mem.1 (hl.mem_iff.1 (getD_int (l := l) (i := x) (by omega)))
  omega
 subst hag
 obtain ⟨J, T, hJg, w1, w2, w3, w4, w5, w6, w7, w8⟩ := made_all hao hbo hm1 hm2 hbg (by omega) he hl
 have i1 := af84 a b
 have i2 := af85 a b
 rw [w1] at i1 i2
 have i3 := af72 J
 have i4 := af73 a e
 have i5 := af73 b e
 have i6 := af73 J e
 rw [w3] at i4
 rw [w4] at i5
 rw [w5] at i6
 have i7 := af74 (rTab m1 (relE a e)) m1
 have i8 := af74 (rTab m2 (relE b e)) m2
 have i9 := af74 (rTab (m1 + m2) (relE J e)) (m1 + m2 : Nat)
 rw [tab_sq] at i7 i8 i9
 have j1 := af18 a l (by omega)
 have j2 := af15 a l (by omega)
 rw [w2] at j1 j2
 have j3 := af72 T
 have j4 := af73 T e
 rw [w6] at j4
 have j5 := af74 (rTab m1 (relE T e)) m1
 rw [tab_sq] at j5
 simp only [rD_eq] at i4 i5 i6 i7 i8 i9 j4 j5
 have v1 : IntKind.i64.wrap ((m1 : Int) + (m2 : Int)) = ((m1 + m2 : Nat) : Int) := by rw [wrap_i64 (by omega) (by omega)]; push_cast; rfl
 generalize relE a e = ra at *
 generalize relE b e = rb at *
 generalize relE J e = rj at *
 generalize relE T e = rt at *
 clear w1 w2 w3 w4 w5 w6 he hl hg hao hbo
 obtain ⟨⟨g1, g2⟩, p', T1, A1⟩ := a
 obtain ⟨b0, q', T2, A2⟩ := b
 simp only at hbg hm1 hm2
 subst hbg hm1 hm2
 obtain ⟨⟨jg1, jg2⟩, jp, jT, jA⟩ := J
 obtain ⟨⟨tg1, tg2⟩, tp, tT, tA⟩ := T
 obtain ⟨ek, en, enn, eks, rfl⟩ := Ex.ex e
 generalize hN : m1 + m2 = N at *
 simp only [eE_mk] at hE i4 i5 i6 j4
 simp (maxSteps := 5000000) +contextual -implicitDefEqProofs only [List.map_nil, eB, go_sem, eB, ↓reduceIte, Nat.reduceEqDiff]
 refine callQ_self ?_ (hP) ?_
 ·exact rfl
 simp (maxSteps := 5000000) +contextual -implicitDefEqProofs only [eG, eI, D.put, D.size, D.sizeL, D.isAg, D.at, D.sub, modeOf, noPtrs, go_sem, eI, ↓reduceIte, Nat.reduceEqDiff, Nat.reduceAdd, Nat.reduceLeDiff, Nat.reduceLT, and_self, true_and, implies_true, Bool.false_eq_true, List.cons_append, List.nil_append]
 refine callQ_self ?_ (hA) ?_
 ·exact rfl
 simp (maxSteps := 5000000) +contextual -implicitDefEqProofs only [eI, eM, eS, bne, Bool.not_false, D.put, D.size, D.sizeL, D.isAg, D.at, D.sub, modeOf, noPtrs, go_sem, eI, ↓reduceIte, Nat.reduceEqDiff, Nat.reduceAdd, Nat.reduceLeDiff, Nat.reduceBEq, Nat.reduceLT, and_self, true_and, implies_true, Bool.false_eq_true, List.cons_append, List.nil_append]
 refine callQ_self ?_ (hB) ?_
 ·exact rfl
 simp (maxSteps := 5000000) +contextual -implicitDefEqProofs only [eI, eM, eS, bne, Bool.not_false, D.put, D.size, D.sizeL, D.isAg, D.at, D.sub, modeOf, noPtrs, go_sem, eI, ↓reduceIte, Nat.reduceEqDiff, Nat.reduceAdd, Nat.reduceLeDiff, Nat.reduceBEq, Nat.reduceLT, and_self, true_and, implies_true, Bool.false_eq_true, List.cons_append, List.nil_append]
 refine callQ_self ?_ (hE) ?_
 ·exact rfl
 simp (maxSteps := 5000000) +contextual -implicitDefEqProofs only [bne, Bool.not_false, D.put, D.size, D.sizeL, D.isAg, D.at, D.sub, modeOf, noPtrs, go_sem, ↓reduceIte, Nat.reduceEqDiff, Nat.reduceAdd, Nat.reduceLeDiff, Nat.reduceBEq, Nat.reduceLT, and_self, true_and, implies_true, Bool.false_eq_true, List.cons_append, List.nil_append]
 refine callQ_self ?_ (i1) ?_
 ·exact rfl
 simp (maxSteps := 5000000) +contextual -implicitDefEqProofs only [eI, eM, eS, bne, Bool.not_false, D.put, D.size, D.sizeL, D.isAg, D.at, D.sub, modeOf, noPtrs, go_sem, eI, ↓reduceIte, Nat.reduceEqDiff, Nat.reduceAdd, Nat.reduceLeDiff, Nat.reduceBEq, Nat.reduceLT, and_self, true_and, implies_true, Bool.false_eq_true, List.cons_append, List.nil_append]
 refine callQ_self ?_ (i2) ?_
 ·exact rfl
 simp (maxSteps := 5000000) +contextual -implicitDefEqProofs only [eI, eM, eS, bne, Bool.not_true, Bool.not_false, D.put, D.size, D.sizeL, D.isAg, D.at, D.sub, modeOf, noPtrs, go_sem, eI, ↓reduceIte, Nat.reduceEqDiff, Nat.reduceAdd, Nat.reduceLeDiff, Nat.reduceBEq, Nat.reduceLT, and_self, true_and, implies_true, Bool.false_eq_true, List.cons_append, List.nil_append]
 refine callQ_self ?_ (i3) ?_
 ·exact rfl
 simp (maxSteps := 5000000) +contextual -implicitDefEqProofs only [eB, bne, Bool.not_true, D.isAg, D.at, D.sub, go_sem, eB, ↓reduceIte, Nat.reduceEqDiff, Nat.reduceLeDiff, and_self, true_and, implies_true, Bool.false_eq_true]
 refine callQ_self ?_ (i4) ?_
 ·exact rfl
 simp (maxSteps := 5000000) +contextual -implicitDefEqProofs only [eI, bne, Bool.not_false, D.isAg, D.at, D.sub, go_sem, eI, ↓reduceIte, Nat.reduceEqDiff, Nat.reduceAdd, Nat.reduceLeDiff, Nat.reduceBEq, Nat.reduceLT, and_self, true_and, implies_true, Bool.false_eq_true, List.cons_append, List.nil_append]
 refine callQ_self ?_ (i5) ?_
 ·exact rfl
 simp (maxSteps := 5000000) +contextual -implicitDefEqProofs only [eI, bne, Bool.not_false, D.isAg, D.at, D.sub, go_sem, eI, ↓reduceIte, Nat.reduceEqDiff, Nat.reduceAdd, Nat.reduceLeDiff, Nat.reduceBEq, Nat.reduceLT, and_self, true_and, implies_true, Bool.false_eq_true, List.cons_append, List.nil_append]
 refine callQ_self ?_ (i6) ?_
 ·exact rfl
 simp (maxSteps := 5000000) +contextual -implicitDefEqProofs only [eI, bne, Bool.not_true, Bool.not_false, D.isAg, D.at, D.sub, go_sem, eI, ↓reduceIte, Nat.reduceEqDiff, Nat.reduceAdd, Nat.reduceLeDiff, Nat.reduceBEq, Nat.reduceLT, and_self, true_and, implies_true, Bool.false_eq_true, List.cons_append, List.nil_append]
 refine callQ_self ?_ (i7) ?_
 ·exact rfl
 simp (maxSteps := 5000000) +contextual -implicitDefEqProofs only [eB, Bool.not_true, D.isAg, D.at, D.sub, go_sem, eB, ↓reduceIte, Nat.reduceEqDiff, Nat.reduceAdd, Nat.reduceLeDiff, Nat.reduceLT, and_self, true_and, implies_true, Bool.false_eq_true]
 refine callQ_self ?_ (i8) ?_
 ·exact rfl
 simp (maxSteps := 5000000) +contextual -implicitDefEqProofs only [v1, eB, Bool.not_true, D.isAg, D.at, D.sub, go_sem, eB, ↓reduceIte, Nat.reduceEqDiff, Nat.reduceAdd, Nat.reduceLeDiff, Nat.reduceLT, and_self, true_and, implies_true, Bool.false_eq_true]
 refine callQ_self ?_ (i9) ?_
 ·exact rfl
 simp (maxSteps := 5000000) +contextual -implicitDefEqProofs only [eB, Bool.not_true, go_sem, eB, ↓reduceIte, Nat.reduceEqDiff]
 refine vc_on (α := Nat) [4, 20, 21, 22, 126, 127, 128, 129, 130, 131, 132, 133, 134, 135, 136, 137, 138, 139, 140, 141, 142, 143, 144, 145, 146, 147, 148, 149, 150, 151, 152, 153, 154, 155, 156, 157, 158, 159, 160, 161, 162, 163, 164, 165, 166, 167, 168, 169, 170, 171, 172, 173, 174, 175, 176, 177, 178, 179, 180, 181, 182, 183, 184] (fun x => [(20, .im none (.sc (.int .i64 x)))]) (fun x => x ≤ N) (fun x => N - x) 0 (by simp only [subEnv, go_sem, ↓reduceIte]; simp) (Nat.zero_le _) ?_
 intro x hx0
 by_cases hx : x < N
 ·simp (maxSteps := 5000000) +contextual -implicitDefEqProofs only [hx, v1, D.isAg, D.sub, Int.ofNat_lt, go_sem, ↓reduceIte, Nat.reduceEqDiff, Nat.reduceAdd, Nat.reduceLeDiff, Nat.reduceLT, decide_true, and_self, true_and, implies_true, Bool.false_eq_true, List.cons_append, List.nil_append]
  refine vc_on (α := Nat) [4, 21, 22, 134, 135, 136, 137, 138, 139, 140, 141, 142, 143, 144, 145, 146, 147, 148, 149, 150, 151, 152, 153, 154, 155, 156, 157, 158, 159, 160, 161, 162, 163, 164, 165, 166, 167, 168, 169, 170, 171, 172, 173, 174, 175, 176, 177, 178, 179, 180, 181, 182, 183, 184] (fun y => [(21, .im none (.sc (.int .i64 y)))]) (fun y => y ≤ N) (fun y => N - y) 0 (by simp only [subEnv, go_sem, ↓reduceIte]; simp) (Nat.zero_le _) ?_
  intro y hy0
  by_cases hy : y < N
  ·have e1 := rD_at (R := rj) hx
   have e2 := rRow_at (f := rj x) hy
   have hv := w7 x y hx hy
   by_cases hx1 : x < m1
   ·have ge1 : ¬ ((m1 : Int) ≤ (x : Int)) := by omega
    by_cases hy1 : y < m1
    ·have ge2 : ¬ ((m1 : Int) ≤ (y : Int)) := by omega
     rw [if_pos ⟨hx1, hy1⟩] at hv
     rw [hv] at e2
     have e3 := rD_at (R := ra) hx1
     have e4 := rRow_at (f := ra x) hy1
     simp (maxSteps := 5000000) +contextual -implicitDefEqProofs only [hx, hy, hx1, hy1, ge1, v1, e1, e2, e3, e4, rD_len, rRow_len, Int.toNat_natCast, Bool.not_true, D.size, D.isAg, D.sub, Int.ofNat_lt, go_sem, ↓reduceIte, Nat.reduceEqDiff, Nat.reduceAdd, Nat.reduceLeDiff, Nat.reduceLT, decide_true, decide_false, and_self, true_and, and_true, implies_true, Bool.false_eq_true, List.cons_append, List.nil_append]
     rw [wrap_i64 (by omega) (by omega)]
     repeat (refine And.intro (by omega) ?_)
     exact ⟨y + 1, by omega, by omega, Ent.env (by simp only [subEnv, go_sem, ↓reduceIte, Nat.reduceEqDiff] <;> simp)⟩
    ·have ge2 : (m1 : Int) ≤ (y : Int) := by omega
     rw [if_neg (by omega), if_neg (by omega)] at hv
     rw [hv] at e2
     simp (maxSteps := 5000000) +contextual -implicitDefEqProofs only [hx, hy, hx1, hy1, ge1, v1, e1, e2, rD_len, rRow_len, Int.toNat_natCast, Bool.not_true, D.size, D.isAg, D.sub, Int.ofNat_lt, go_sem, ↓reduceIte, Nat.reduceEqDiff, Nat.reduceAdd, Nat.reduceLeDiff, Nat.reduceLT, decide_true, decide_false, and_self, true_and, and_true, implies_true, Bool.false_eq_true, List.cons_append, List.nil_append]
     rw [wrap_i64 (by omega) (by omega)]
     repeat (refine And.intro (by omega) ?_)
     exact ⟨y + 1, by omega, by omega, Ent.env (by simp only [subEnv, go_sem, ↓reduceIte, Nat.reduceEqDiff] <;> simp)⟩
   ·have ge1 : (m1 : Int) ≤ (x : Int) := by omega
    by_cases hy1 : y < m1
    ·have ge2 : ¬ ((m1 : Int) ≤ (y : Int)) := by omega
     rw [if_neg (by omega), if_neg (by omega)] at hv
     rw [hv] at e2
     simp (maxSteps := 5000000) +contextual -implicitDefEqProofs only [hx, hy, hx1, ge1, ge2, v1, e1, e2, rD_len, rRow_len, Int.toNat_natCast, Bool.not_true, D.size, D.isAg, D.sub, Int.ofNat_lt, go_sem, ↓reduceIte, Nat.reduceEqDiff, Nat.reduceAdd, Nat.reduceLeDiff, Nat.reduceLT, decide_true, decide_false, and_self, true_and, and_true, implies_true, Bool.false_eq_true, List.cons_append, List.nil_append]
     rw [wrap_i64 (by omega) (by omega)]
     repeat (refine And.intro (by omega) ?_)
     exact ⟨y + 1, by omega, by omega, Ent.env (by simp only [subEnv, go_sem, ↓reduceIte, Nat.reduceEqDiff] <;> simp)⟩
    ·have ge2 : (m1 : Int) ≤ (y : Int) := by omega
     rw [if_neg (by omega), if_pos (by omega)] at hv
     rw [hv] at e2
     have hx2 : x - m1 < m2 := by omega
     have hy2 : y - m1 < m2 := by omega
     have e3 := rD_at (R := rb) hx2
     have e4 := rRow_at (f := rb (x - m1)) hy2
     have s1 : IntKind.i64.wrap ((x : Int) - (m1 : Int)) = ((x - m1 : Nat) : Int) := by rw [wrap_i64 (by omega) (by omega)]; omega
     have s2 : IntKind.i64.wrap ((y : Int) - (m1 : Int)) = ((y - m1 : Nat) : Int) := by rw [wrap_i64 (by omega) (by omega)]; omega
     simp (maxSteps := 5000000) +contextual -implicitDefEqProofs only [hx, hy, hx1, hx2, hy2, ge1, ge2, v1, s1, s2, e1, e2, e3, e4, rD_len, rRow_len, Int.toNat_natCast, Bool.not_true, D.size, D.isAg, D.sub, Int.ofNat_lt, go_sem, ↓reduceIte, Nat.reduceEqDiff, Nat.reduceAdd, Nat.reduceLeDiff, Nat.reduceLT, decide_true, decide_false, and_self, true_and, and_true, implies_true, Bool.false_eq_true, List.cons_append, List.nil_append]
     rw [wrap_i64 (by omega) (by omega)]
     repeat (refine And.intro (by omega) ?_)
     exact ⟨y + 1, by omega, by omega, Ent.env (by simp only [subEnv, go_sem, ↓reduceIte, Nat.reduceEqDiff] <;> simp)⟩
  ·simp (maxSteps := 5000000) +contextual -implicitDefEqProofs only [hy, v1, D.isAg, D.sub, Int.ofNat_lt, go_sem, ↓reduceIte, Nat.reduceEqDiff, Nat.reduceAdd, Nat.reduceLeDiff, Nat.reduceLT, decide_false, and_self, true_and, implies_true, Bool.false_eq_true, List.cons_append, List.nil_append]
   rw [wrap_i64 (by omega) (by omega)]
   repeat (refine And.intro (by omega) ?_)
   exact ⟨x + 1, by omega, by omega, Ent.env (by simp only [subEnv, go_sem, ↓reduceIte, Nat.reduceEqDiff] <;> simp)⟩
 ·have hxN : ¬ x < N := hx
  simp (maxSteps := 5000000) +contextual -implicitDefEqProofs only [hx, v1, Int.ofNat_lt, D.isAg, D.at, D.sub, go_sem, ↓reduceIte, Nat.reduceEqDiff, Nat.reduceAdd, Nat.reduceLeDiff, Nat.reduceLT, decide_false, and_self, true_and, implies_true, Bool.false_eq_true, List.cons_append, List.nil_append]
  refine callQ_self ?_ (hL) ?_
  ·exact rfl
  simp (maxSteps := 5000000) +contextual -implicitDefEqProofs only [eS, bne, Bool.not_false, D.isAg, D.at, D.sub, go_sem, ↓reduceIte, Nat.reduceEqDiff, Nat.reduceLeDiff, Nat.reduceBEq, and_self, true_and, implies_true, Bool.false_eq_true, List.cons_append, List.nil_append]
  refine callQ_self ?_ (j1) ?_
  ·exact rfl
  simp (maxSteps := 5000000) +contextual -implicitDefEqProofs only [eI, eM, eS, bne, Bool.not_false, D.put, D.size, D.sizeL, D.isAg, D.at, D.sub, modeOf, noPtrs, go_sem, eI, ↓reduceIte, Nat.reduceEqDiff, Nat.reduceAdd, Nat.reduceLeDiff, Nat.reduceBEq, Nat.reduceLT, and_self, true_and, implies_true, Bool.false_eq_true, List.cons_append, List.nil_append]
  refine callQ_self ?_ (j2) ?_
  ·exact rfl
  simp (maxSteps := 5000000) +contextual -implicitDefEqProofs only [eI, eM, eS, bne, Bool.not_false, D.put, D.size, D.sizeL, D.isAg, D.at, D.sub, modeOf, noPtrs, go_sem, eI, ↓reduceIte, Nat.reduceEqDiff, Nat.reduceAdd, Nat.reduceLeDiff, Nat.reduceBEq, Nat.reduceLT, and_self, true_and, implies_true, Bool.false_eq_true, List.cons_append, List.nil_append]
  refine callQ_self ?_ (j4) ?_
  ·exact rfl
  simp (maxSteps := 5000000) +contextual -implicitDefEqProofs only [eI, bne, Bool.not_true, Bool.not_false, D.isAg, D.at, D.sub, go_sem, eI, ↓reduceIte, Nat.reduceEqDiff, Nat.reduceAdd, Nat.reduceLeDiff, Nat.reduceBEq, Nat.reduceLT, and_self, true_and, implies_true, Bool.false_eq_true, List.cons_append, List.nil_append]
  refine callQ_self ?_ (j3) ?_
  ·exact rfl
  simp (maxSteps := 5000000) +contextual -implicitDefEqProofs only [eB, bne, Bool.not_true, go_sem, eB, ↓reduceIte, Nat.reduceEqDiff, true_and]
  refine callQ_self ?_ (j5) ?_
  ·exact rfl
  simp (maxSteps := 5000000) +contextual -implicitDefEqProofs only [eB, Bool.not_true, go_sem, eB, ↓reduceIte, Nat.reduceEqDiff]
  refine vc_on (α := Nat) [4, 30, 31, 225, 226, 227, 228, 229, 230, 231, 232, 233, 234, 235, 236, 237, 238, 239, 240, 241, 242, 243, 244, 245, 246, 247, 248, 249, 250, 251, 252, 253, 254, 255] (fun x => [(30, .im none (.sc (.int .i64 x)))]) (fun x => x ≤ m1) (fun x => m1 - x) 0 (by simp only [subEnv, go_sem, ↓reduceIte]; simp) (Nat.zero_le _) ?_
  intro x hx0
  by_cases hx : x < m1
  ·simp (maxSteps := 5000000) +contextual -implicitDefEqProofs only [hx, Int.ofNat_lt, go_sem, ↓reduceIte, Nat.reduceEqDiff, decide_true, true_and, Bool.false_eq_true, List.cons_append, List.nil_append]
   refine vc_on (α := Nat) [4, 31, 230, 231, 232, 233, 234, 235, 236, 237, 238, 239, 240, 241, 242, 243, 244, 245, 246, 247, 248, 249, 250, 251, 252, 253, 254, 255] (fun y => [(31, .im none (.sc (.int .i64 y)))]) (fun y => y ≤ m1) (fun y => m1 - y) 0 (by simp only [subEnv, go_sem, ↓reduceIte]; simp) (Nat.zero_le _) ?_
   intro y hy0
   by_cases hy : y < m1
   ·have hv := w8 x y hx hy
    obtain ⟨p1, p2, p3⟩ := hlm x hx
    obtain ⟨q1, q2, q3⟩ := hlm y hy
    have e1 := rD_at (R := rt) hx
    have e2 := rRow_at (f := rt x) hy
    rw [hv] at e2
    have e3 := rD_at (R := ra) p2
    have e4 := rRow_at (f := ra (l.getD x 0).toNat) q2
    have e5 := iD_at (l := l) (k := x) (by omega)
    have e6 := iD_at (l := l) (k := y) (by omega)
    simp (maxSteps := 5000000) +contextual -implicitDefEqProofs only [hx, hy, p1, p3, q1, q3, hlen, e1, e2, e3, e4, e5, e6, iD_map, iD_len, rD_len, rRow_len, Int.toNat_natCast, Bool.not_true, D.size, D.isAg, D.sub, Int.ofNat_lt, go_sem, ↓reduceIte, Nat.reduceEqDiff, Nat.reduceLeDiff, Nat.reduceLT, decide_true, and_self, true_and, and_true, implies_true, Bool.false_eq_true, List.cons_append, List.nil_append]
    rw [wrap_i64 (by omega) (by omega)]
    repeat (refine And.intro (by omega) ?_)
    exact ⟨y + 1, by omega, by omega, Ent.env (by simp only [subEnv, go_sem, ↓reduceIte, Nat.reduceEqDiff] <;> simp)⟩
   ·simp (maxSteps := 5000000) +contextual -implicitDefEqProofs only [hy, Int.ofNat_lt, go_sem, ↓reduceIte, Nat.reduceEqDiff, decide_false, true_and, Bool.false_eq_true, List.cons_append, List.nil_append]
    rw [wrap_i64 (by omega) (by omega)]
    repeat (refine And.intro (by omega) ?_)
    exact ⟨x + 1, by omega, by omega, Ent.env (by simp only [subEnv, go_sem, ↓reduceIte, Nat.reduceEqDiff] <;> simp)⟩
  ·simp (maxSteps := 5000000) +contextual -implicitDefEqProofs only [hx, Int.ofNat_lt, go_sem, ↓reduceIte, Nat.reduceEqDiff, decide_false, and_self, Bool.false_eq_true, List.cons_append, List.nil_append]
end Go.Ax
