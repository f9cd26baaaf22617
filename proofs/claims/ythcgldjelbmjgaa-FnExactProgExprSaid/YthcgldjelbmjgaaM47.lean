/- Contracts of functions of the seat, proved over the engine. No condition. -/
import Derived.WalkKit
import Derived.Lib.Walk
import Derived.Below
import Derived.Test.YthcgldjelbmjgaaX63
import Derived.Test.YthcgldjelbmjgaaX64
import Derived.Test.YthcgldjelbmjgaaX2
import Derived.Test.YthcgldjelbmjgaaChecked
set_option linter.unusedSimpArgs false
set_option linter.unusedVariables false
set_option linter.unnecessarySimpa false
namespace Go.Ax
open Go.Proofs
set_option linter.unusedSimpArgs false
theorem mixed : Try.prog.follows .mixedOrders = true := by kernel_rfl
theorem res87 : resF Try.prog 87 = some (27, cSzC 16 3 true, [.t 4]) := by kernel_rfl
theorem res16 : resF Try.prog 16 = some (12, k_szExpr 87, [.t 4]) := by kernel_rfl
theorem res134 : resF Try.prog 134 = some (27, cSzC 57 6 true, [.t 4]) := by kernel_rfl
theorem res57 : resF Try.prog 57 = some (18, k_szProg 16 134, [.t 4]) := by kernel_rfl
theorem res50 : resF Try.prog 50 = some (11, k_toSig, [.c 2 2 true]) := by kernel_rfl
theorem af50 : K_toSig Try.prog 50 := a_toSig mixed res50
theorem res92 : resF Try.prog 92 = some (23, cToC 19 3 40 true (.ag [(.sc (.int .i64 0)), (.sc (.int .i64 0)), (.ls (some true) 3 [])]), [.t 2]) := by kernel_rfl
theorem res19 : resF Try.prog 19 = some (15, k_toExpr 92, [.c 2 3 true]) := by kernel_rfl
theorem res137 : resF Try.prog 137 = some (23, cToC 59 6 80 true (.ag [(.sc (.int .i64 0)), (.sc (.int .i64 0)), (.sc (.int .i64 0)), (.sc (.int .i64 0)), (.ls (some true) 3 []), (.ls (some true) 6 [])]), [.t 2]) := by kernel_rfl
theorem res59 : resF Try.prog 59 = some (19, k_toProg 19 137, [.c 2 6 true]) := by kernel_rfl
theorem res159 : resF Try.prog 159 = some (15, k_l00In, [.t 6]) := by kernel_rfl
theorem af159 : K_l00In Try.prog 159 := a_l00In mixed res159
theorem res148 : resF Try.prog 148 = some (11, k_l01Sig 159, [.t 2]) := by kernel_rfl
theorem af148 : K_l01Sig Try.prog 148 := a_l01Sig mixed res148 af159
theorem res210 : resF Try.prog 210 = some (30, k_l06Left 210, [.t 4]) := by kernel_rfl
theorem af210 : K_l06Left Try.prog 210 := a_l06Left mixed res210
theorem res239 : resF Try.prog 239 = some (10, k_l00Max, [.t 4]) := by kernel_rfl
theorem af239 : K_l00Max Try.prog 239 := a_l00Max mixed res239
theorem res211 : resF Try.prog 211 = some (25, k_l06Depth 211 239, [.t 2]) := by kernel_rfl
theorem af211 : K_l06Depth Try.prog 211 := a_l06Depth mixed res211 af239
theorem res246 : resF Try.prog 246 = some (14, k_l06Kids, [.t 2]) := by kernel_rfl
theorem af246 : K_l06Kids Try.prog 246 := a_l06Kids mixed res246
theorem res247 : resF Try.prog 247 = some (13, k_l06Asks, [.t 2]) := by kernel_rfl
theorem af247 : K_l06Asks Try.prog 247 := a_l06Asks mixed res247
theorem res187 : resF Try.prog 187 = some (30, k_l01Left 187, [.t 4]) := by kernel_rfl
theorem af187 : K_l01Left Try.prog 187 := a_l01Left mixed res187
theorem res188 : resF Try.prog 188 = some (25, k_l01Depth 188 239, [.t 2]) := by kernel_rfl
theorem af188 : K_l01Depth Try.prog 188 := a_l01Depth mixed res188 af239
theorem res240 : resF Try.prog 240 = some (15, k_l01Kids, [.t 2]) := by kernel_rfl
theorem af240 : K_l01Kids Try.prog 240 := a_l01Kids mixed res240
theorem res241 : resF Try.prog 241 = some (34, k_l01Condition 241 159, [.t 2]) := by kernel_rfl
theorem af241 : K_l01Condition Try.prog 241 := a_l01Condition mixed res241 af159
theorem res189 : resF Try.prog 189 = some (80, k_l01Tree 189 240 159 241, [.t 4]) := by kernel_rfl
theorem af189 : K_l01Tree Try.prog 189 := a_l01Tree mixed res189 af240 af159 af241
theorem res110 : resF Try.prog 110 = some (22, k_l01Ok 148 187 188 189, [.t 4]) := by kernel_rfl
theorem af110 : K_l01Ok Try.prog 110 := a_l01Ok mixed res110 af148 af187 af188 af189
theorem res248 : resF Try.prog 248 = some (12, k_l06Cond 110 241, [.t 4]) := by kernel_rfl
theorem af248 : K_l06Cond Try.prog 248 := a_l06Cond mixed res248 af110 af241
theorem res249 : resF Try.prog 249 = some (23, k_l06None, [.t 2]) := by kernel_rfl
theorem af249 : K_l06None Try.prog 249 := a_l06None mixed res249
theorem res212 : resF Try.prog 212 = some (93, k_l06Tree 212 246 159 247 248 249, [.t 4]) := by kernel_rfl
theorem af212 : K_l06Tree Try.prog 212 := a_l06Tree mixed res212 af246 af159 af247 af248 af249
theorem res135 : resF Try.prog 135 = some (22, k_l06Ok 148 210 211 212, [.t 4]) := by kernel_rfl
theorem af135 : K_l06Ok Try.prog 135 := a_l06Ok mixed res135 af148 af210 af211 af212
theorem res213 : resF Try.prog 213 = some (2, k_l02One, [.c 0 3 true]) := by kernel_rfl
theorem af213 : K_l02One Try.prog 213 := a_l02One mixed res213
theorem res149 : resF Try.prog 149 = some (2, k_l02Zero, [.c 0 3 true]) := by kernel_rfl
theorem af149 : K_l02Zero Try.prog 149 := a_l02Zero mixed res149
theorem res214 : resF Try.prog 214 = some (36, k_l01Own 214, [.c 2 3 true]) := by kernel_rfl
theorem af214 : K_l01Own Try.prog 214 := a_l01Own mixed res214
end Go.Ax
namespace Go.Proofs
open Go.RowKit Go.Lib
set_option maxHeartbeats 2000000
set_option maxRecDepth 100000
theorem push4_3 {α : Type} (h : Array α) (a b c d : α) : ((((h.push a).push b).push c).push d)[h.size + 1 + 1 + 1]? = some d := by
  have e : (((h.push a).push b).push c).size = h.size + 1 + 1 + 1 := by simp only [Array.size_push]
  rw [← e]
  exact Array.getElem?_push_size
theorem push4_2 {α : Type} (h : Array α) (a b c d : α) : ((((h.push a).push b).push c).push d)[h.size + 1 + 1]? = some c := by
  have e : ((h.push a).push b).size = h.size + 1 + 1 := by simp only [Array.size_push]
  rw [Array.getElem?_push, if_neg (by simp only [Array.size_push]; omega), ← e]
  exact Array.getElem?_push_size
theorem size_alc (w : World) (o : Obj) : (w.alloc o).heap.size = w.heap.size + 1 := by
  show (w.heap.push o).size = _
  simp only [Array.size_push]
theorem walkPair (k : Int) (a1 a2 a3 b1 b2 b3 : Value) (w : World) :
    Calls Try.prog 150 #[.int .i64 k, .agg #[a1, a2, a3], .agg #[b1, b2, b3]] w fun e w' => (∃ b t, e = .returned (.agg #[.int .i64 k, .int .i64 0, .slice (some ⟨b, 0, none⟩) 2 2]) ∧ w.heap.size ≤ b ∧ w'.heap[b]? = some (.cells #[a1, a2, a3, b1, b2, b3] t (0, 0))) ∧ Below w.heap.size w w' := by
  have mixed : Try.prog.follows .mixedOrders = true := by kernel_rfl
  go_enter Try.func150, Try.ntmps150
  go_wp2
  refine bodyPost_ret (results_cell_row rfl _ _ (w.heap.size + 1 + 1) 42 #[.int .i64 k, .int .i64 0, .slice (some ⟨w.heap.size + 1 + 1 + 1, 0, none⟩) 2 2] (0, 0) _ rfl ?_ Try.underlying42 rfl (by kernel_rfl)) rfl ?_
  · exact push4_2 w.heap _ _ _ _
  · refine ⟨⟨w.heap.size + 1 + 1 + 1, 42, rfl, by omega, ?_⟩, ?_⟩
    · exact push4_3 w.heap _ _ _ _
    · exact ((((Below.refl _ w).alloc (Nat.le_refl _) _).alloc (by simp only [size_alc]; omega) _).alloc (by simp only [size_alc]; omega) _).alloc (by simp only [size_alc]; omega) _
end Go.Proofs
namespace Go.Ax
open Go.Proofs
theorem arr3 (a : Array Value) (h : a.size = 3) : ∃ x y z, a = #[x, y, z] := by
  obtain ⟨l⟩ := a
  match l, h with
  | [x, y, z], _ => exact ⟨x, y, z, rfl⟩
theorem af150 : K_l02Pair Try.prog 150 := by
  refine ⟨⟨Try.f150, Try.func150, by kernel_rfl, by kernel_rfl⟩, fun k a b w ha hb => ?_⟩
  obtain ⟨a1, a2, a3, rfl⟩ := arr3 a ha
  obtain ⟨b1, b2, b3, rfl⟩ := arr3 b hb
  exact walkPair k a1 a2 a3 b1 b2 b3 w
theorem res215 : resF Try.prog 215 = some (6, k_l06Not 214, [.c 2 3 true]) := by kernel_rfl
theorem af215 : K_l06Not Try.prog 215 := a_l06Not mixed res215 af214
theorem res136 : resF Try.prog 136 = some (81, k_l06Expr 136 213 149 214 150 215, [.c 2 3 true]) := by kernel_rfl
theorem af136 : K_l06Expr Try.prog 136 := a_l06Expr mixed res136 af213 af149 af214 af150 af215
theorem res58 : resF Try.prog 58 = some (17, k_spProgExpr 135 136 110, [.c 4 3 true, .t 5]) := by kernel_rfl
theorem af58 : K_spProgExpr Try.prog 58 := a_spProgExpr mixed res58 af135 af136 af110
theorem res158 : resF Try.prog 158 = some (15, k_within, [.t 6]) := by kernel_rfl
theorem af158 : K_within Try.prog 158 := a_within mixed res158
theorem res207 : resF Try.prog 207 = some (11, k_validSig 158, [.t 2]) := by kernel_rfl
theorem af207 : K_validSig Try.prog 207 := a_validSig mixed res207 af158
theorem res258 : resF Try.prog 258 = some (17, k_progForm, [.t 2, .t 3]) := by kernel_rfl
theorem af258 : K_progForm Try.prog 258 := a_progForm mixed res258
theorem res236 : resF Try.prog 236 = some (15, k_kidsOf, [.t 2]) := by kernel_rfl
theorem af236 : K_kidsOf Try.prog 236 := a_kidsOf mixed res236
theorem res237 : resF Try.prog 237 = some (25, k_isCondition 237, [.t 2]) := by kernel_rfl
theorem af237 : K_isCondition Try.prog 237 := a_isCondition mixed res237
theorem res174 : resF Try.prog 174 = some (86, k_shaped 174 236 158 237, [.t 8, .t 9]) := by kernel_rfl
theorem af174 : K_shaped Try.prog 174 := a_shaped mixed res174 af236 af158 af237
theorem res94 : resF Try.prog 94 = some (14, k_isExpr 174, [.t 4]) := by kernel_rfl
theorem af94 : K_isExpr Try.prog 94 := a_isExpr mixed res94 af174
theorem res259 : resF Try.prog 259 = some (12, k_imCondOk 94 237, [.t 4]) := by kernel_rfl
theorem af259 : K_imCondOk Try.prog 259 := a_imCondOk mixed res259 af94 af237
theorem res260 : resF Try.prog 260 = some (17, k_isNone, [.t 2]) := by kernel_rfl
theorem af260 : K_isNone Try.prog 260 := a_isNone mixed res260
theorem res250 : resF Try.prog 250 = some (98, k_progFits 250 258 259 260 158, [.t 8, .t 9]) := by kernel_rfl
theorem af250 : K_progFits Try.prog 250 := a_progFits mixed res250 af258 af259 af260 af158
theorem res216 : resF Try.prog 216 = some (14, k_isProg 250, [.t 4]) := by kernel_rfl
theorem af216 : K_isProg Try.prog 216 := a_isProg mixed res216 af250
theorem res138 : resF Try.prog 138 = some (12, k_imValidProg 207 216, [.t 4]) := by kernel_rfl
theorem af138 : K_imValidProg Try.prog 138 := a_imValidProg mixed res138 af207 af216
theorem res217 : resF Try.prog 217 = some (8, k_leaf, [.c 4 3 true]) := by kernel_rfl
theorem af217 : K_leaf Try.prog 217 := a_leaf mixed res217
theorem res218 : resF Try.prog 218 = some (27, k_copyExpr 218, [.c 2 3 true]) := by kernel_rfl
theorem af218 : K_copyExpr Try.prog 218 := a_copyExpr mixed res218
theorem res219 : resF Try.prog 219 = some (8, k_tree, [.c 4 3 true]) := by kernel_rfl
theorem af219 : K_tree Try.prog 219 := a_tree mixed res219
theorem res139 : resF Try.prog 139 = some (80, k_progExpr 139 217 218 219, [.c 2 3 true]) := by kernel_rfl
theorem af139 : K_progExpr Try.prog 139 := a_progExpr mixed res139 af217 af218 af219
theorem res60 : resF Try.prog 60 = some (20, k_imProgExpr 138 139 94, [.c 4 3 true, .t 5]) := by kernel_rfl
theorem af60 : K_imProgExpr Try.prog 60 := a_imProgExpr mixed res60 af138 af139 af94
theorem res102 : resF Try.prog 102 = some (27, cEqC 24 3 true, [.t 4]) := by kernel_rfl
theorem res24 : resF Try.prog 24 = some (21, k_eqExpr 102, [.t 4]) := by kernel_rfl
theorem res140 : resF Try.prog 140 = some (27, cEqC 61 6 true, [.t 4]) := by kernel_rfl
theorem res61 : resF Try.prog 61 = some (27, k_eqProg 24 140, [.t 4]) := by kernel_rfl
theorem res142 : resF Try.prog 142 = some (40, k_heldExprS 142, [.t 4]) := by kernel_rfl
theorem af142 : K_heldExprS Try.prog 142 := a_heldExprS mixed res142
theorem res63 : resF Try.prog 63 = some (12, k_heldExpr 142, [.t 4]) := by kernel_rfl
theorem af63 : K_heldExpr Try.prog 63 := a_heldExpr mixed res63 af142
theorem res105 : resF Try.prog 105 = some (34, k_markExprS 105, [.t 4]) := by kernel_rfl
theorem af105 : K_markExprS Try.prog 105 := a_markExprS mixed res105
theorem res26 : resF Try.prog 26 = some (10, k_markExpr 105, [.t 4]) := by kernel_rfl
theorem af26 : K_markExpr Try.prog 26 := a_markExpr mixed res26 af105
theorem res141 : resF Try.prog 141 = some (58, k_markProgS 141 105, [.t 4]) := by kernel_rfl
theorem af141 : K_markProgS Try.prog 141 := a_markProgS mixed res141 af105
theorem res62 : resF Try.prog 62 = some (14, k_markProg 26 141, [.t 4]) := by kernel_rfl
theorem af62 : K_markProg Try.prog 62 := a_markProg mixed res62 af26 af141

def rc10 : RC := (.seq (.reg false [⟨none, .box 2 2 (.t 0)⟩, ⟨none, .box 3 6 (.t 1)⟩, ⟨none, .mv 4 (.c (.sc (.bool false)))⟩]) ((.seq (.reg false [⟨none, .mv 5 (.c (.sc (.int .i64 1048576)))⟩]) ((.seq (.reg false [⟨none, .ld 16 true 6 (.t 3)⟩, ⟨none, .mv 17 (.t 5)⟩, ⟨none, .call (some 18) 57 [(.t 16), (.t 17)]⟩, ⟨none, .mv 5 (.t 18)⟩]) ((.seq ((.seq (.reg false [⟨none, .mv 19 (.t 5)⟩, ⟨none, .bin 20 .lss (.t 19) (.c (.sc (.int .i64 0)))⟩]) (.cond (.t 20) ((.seq (.reg false [⟨none, .mv 4 (.c (.sc (.bool true)))⟩]) (.ret))) (.skip)))) ((.seq (.reg true [⟨none, .ld 22 true 2 (.t 2)⟩, ⟨none, .call (some 23) 50 [(.t 22)]⟩, ⟨none, .ld 24 true 6 (.t 3)⟩, ⟨none, .call (some 25) 59 [(.t 24)]⟩, ⟨none, .call (some 26) 58 [(.t 23), (.t 25)]⟩, ⟨none, .mv 21 (.t 26)⟩, ⟨none, .ext 27 (.t 21) 0⟩, ⟨none, .ext 28 (.t 21) 1⟩, ⟨none, .zer 6 3 (.ag [(.sc (.int .i64 0)), (.sc (.int .i64 0)), (.ls (some true) 3 [])])⟩, ⟨none, .st 3 (.t 6) (.t 27)⟩, ⟨none, .mv 7 (.t 28)⟩]) ((.seq (.reg false [⟨none, .ld 29 true 6 (.t 3)⟩, ⟨none, .call (some 30) 59 [(.t 29)]⟩, ⟨none, .zer 8 6 (.ag [(.sc (.int .i64 0)), (.sc (.int .i64 0)), (.sc (.int .i64 0)), (.sc (.int .i64 0)), (.ls (some true) 3 []), (.ls (some true) 6 [])])⟩, ⟨none, .st 6 (.t 8) (.t 30)⟩]) ((.seq (.reg true [⟨none, .ld 32 true 2 (.t 2)⟩, ⟨none, .call (some 33) 50 [(.t 32)]⟩, ⟨none, .ld 34 true 6 (.t 8)⟩, ⟨none, .call (some 35) 60 [(.t 33), (.t 34)]⟩, ⟨none, .mv 31 (.t 35)⟩, ⟨none, .ext 36 (.t 31) 0⟩, ⟨none, .ext 37 (.t 31) 1⟩, ⟨none, .zer 9 3 (.ag [(.sc (.int .i64 0)), (.sc (.int .i64 0)), (.ls (some true) 3 [])])⟩, ⟨none, .st 3 (.t 9) (.t 36)⟩, ⟨none, .mv 10 (.t 37)⟩]) ((.seq ((.seq (.reg false [⟨none, .ld 38 true 3 (.t 9)⟩, ⟨none, .ld 39 true 3 (.t 6)⟩, ⟨none, .call (some 40) 24 [(.t 38), (.t 39)]⟩, ⟨none, .un 41 .not (.t 40)⟩, ⟨none, .mv 42 (.t 41)⟩, ⟨some (42, false), .mv 43 (.t 10)⟩, ⟨some (42, false), .mv 44 (.t 7)⟩, ⟨some (42, false), .bin 45 .neq (.t 43) (.t 44)⟩, ⟨none, .pick 46 (.t 42) (.c (.sc (.bool true))) (.t 45)⟩]) (.cond (.t 46) ((.seq (.reg false [⟨none, .mv 4 (.c (.sc (.bool false)))⟩]) (.ret))) (.skip)))) ((.seq ((.seq (.reg true [⟨none, .ld 47 true 6 (.t 8)⟩, ⟨none, .ld 48 true 6 (.t 3)⟩, ⟨none, .call (some 49) 59 [(.t 48)]⟩, ⟨none, .call (some 50) 61 [(.t 47), (.t 49)]⟩, ⟨none, .un 51 .not (.t 50)⟩]) (.cond (.t 51) ((.seq (.reg false [⟨none, .mv 4 (.c (.sc (.bool false)))⟩]) (.ret))) (.skip)))) ((.seq (.reg false [⟨none, .mv 11 (.c (.sc (.int .i64 1)))⟩]) ((.seq (.reg false [⟨none, .ld 52 true 6 (.t 8)⟩, ⟨none, .mv 53 (.t 11)⟩, ⟨none, .mcl 54 62 (.t 52) (.t 53)⟩, ⟨none, .mv 11 (.t 54)⟩]) ((.seq ((.seq (.reg false [⟨none, .mv 55 (.t 11)⟩, ⟨none, .bin 56 .lss (.t 55) (.c (.sc (.int .i64 0)))⟩, ⟨none, .mv 57 (.t 56)⟩, ⟨some (57, false), .ld 58 true 3 (.t 9)⟩, ⟨some (57, false), .ld 59 true 3 (.t 6)⟩, ⟨some (57, false), .call (some 60) 24 [(.t 58), (.t 59)]⟩, ⟨some (57, false), .un 61 .not (.t 60)⟩, ⟨none, .pick 62 (.t 57) (.c (.sc (.bool true))) (.t 61)⟩, ⟨none, .mv 63 (.t 62)⟩, ⟨some (63, false), .mv 64 (.t 10)⟩, ⟨some (63, false), .mv 65 (.t 7)⟩, ⟨some (63, false), .bin 66 .neq (.t 64) (.t 65)⟩, ⟨none, .pick 67 (.t 63) (.c (.sc (.bool true))) (.t 66)⟩]) (.cond (.t 67) ((.seq (.reg false [⟨none, .mv 4 (.c (.sc (.bool false)))⟩]) (.ret))) (.skip)))) ((.seq (.reg false [⟨none, .mv 12 (.c (.sc (.int .i64 1)))⟩]) ((.seq (.reg false [⟨none, .ld 68 true 3 (.t 9)⟩, ⟨none, .mv 69 (.t 12)⟩, ⟨none, .mcl 70 26 (.t 68) (.t 69)⟩, ⟨none, .mv 12 (.t 70)⟩]) ((.seq (.reg false [⟨none, .mv 13 (.c (.sc (.int .i64 1)))⟩]) ((.seq (.reg false [⟨none, .ld 71 true 3 (.t 9)⟩, ⟨none, .mv 72 (.t 13)⟩, ⟨none, .call (some 73) 63 [(.t 71), (.t 72)]⟩, ⟨none, .mv 13 (.t 73)⟩]) ((.seq ((.seq (.reg false [⟨none, .mv 74 (.t 13)⟩, ⟨none, .bin 75 .lss (.t 74) (.c (.sc (.int .i64 0)))⟩]) (.cond (.t 75) ((.seq (.reg false [⟨none, .mv 4 (.c (.sc (.bool false)))⟩]) (.ret))) (.skip)))) ((.seq ((.seq (.reg false [⟨none, .mv 76 (.t 13)⟩, ⟨none, .mv 77 (.t 12)⟩, ⟨none, .bin 78 .neq (.t 76) (.t 77)⟩]) (.cond (.t 78) ((.seq (.reg false [⟨none, .mv 4 (.c (.sc (.bool false)))⟩]) (.ret))) (.skip)))) ((.seq (.reg true [⟨none, .ld 80 true 2 (.t 2)⟩, ⟨none, .call (some 81) 50 [(.t 80)]⟩, ⟨none, .ld 82 true 6 (.t 3)⟩, ⟨none, .call (some 83) 59 [(.t 82)]⟩, ⟨none, .call (some 84) 60 [(.t 81), (.t 83)]⟩, ⟨none, .mv 79 (.t 84)⟩, ⟨none, .ext 85 (.t 79) 0⟩, ⟨none, .ext 86 (.t 79) 1⟩, ⟨none, .zer 14 3 (.ag [(.sc (.int .i64 0)), (.sc (.int .i64 0)), (.ls (some true) 3 [])])⟩, ⟨none, .st 3 (.t 14) (.t 85)⟩, ⟨none, .mv 15 (.t 86)⟩]) ((.seq ((.seq (.reg false [⟨none, .ld 87 true 3 (.t 14)⟩, ⟨none, .ld 88 true 3 (.t 6)⟩, ⟨none, .call (some 89) 24 [(.t 87), (.t 88)]⟩, ⟨none, .un 90 .not (.t 89)⟩, ⟨none, .mv 91 (.t 90)⟩, ⟨some (91, false), .mv 92 (.t 15)⟩, ⟨some (91, false), .mv 93 (.t 7)⟩, ⟨some (91, false), .bin 94 .neq (.t 92) (.t 93)⟩, ⟨none, .pick 95 (.t 91) (.c (.sc (.bool true))) (.t 94)⟩]) (.cond (.t 95) ((.seq (.reg false [⟨none, .mv 4 (.c (.sc (.bool false)))⟩]) (.ret))) (.skip)))) ((.seq (.reg false [⟨none, .mv 13 (.c (.sc (.int .i64 1)))⟩]) ((.seq (.reg false [⟨none, .ld 96 true 3 (.t 9)⟩, ⟨none, .mv 97 (.t 13)⟩, ⟨none, .call (some 98) 63 [(.t 96), (.t 97)]⟩, ⟨none, .mv 13 (.t 98)⟩]) ((.seq ((.seq (.reg false [⟨none, .mv 99 (.t 13)⟩, ⟨none, .bin 100 .lss (.t 99) (.c (.sc (.int .i64 0)))⟩]) (.cond (.t 100) ((.seq (.reg false [⟨none, .mv 4 (.c (.sc (.bool false)))⟩]) (.ret))) (.skip)))) ((.seq ((.seq (.reg false [⟨none, .mv 101 (.t 13)⟩, ⟨none, .mv 102 (.t 12)⟩, ⟨none, .bin 103 .neq (.t 101) (.t 102)⟩]) (.cond (.t 103) ((.seq (.reg false [⟨none, .mv 4 (.c (.sc (.bool false)))⟩]) (.ret))) (.skip)))) ((.seq (.reg false [⟨none, .mv 4 (.c (.sc (.bool true)))⟩]) (.ret))))))))))))))))))))))))))))))))))))))))))))))))))
theorem res10 : resF Try.prog 10 = some (104, rc10, [.t 4]) := by kernel_rfl
noncomputable def famExpr : Fam Try.prog eE 16 19 24 := famE mixed res16 res87 res19 res92 res24 res102
theorem famExpr_t (x) : famExpr.t x = tE x := rfl
noncomputable def famProg : Fam Try.prog eP 57 59 61 := famPg mixed famExpr ⟨rfl, rfl, rfl, rfl⟩ res57 res134 res59 res137 res61 res140
theorem famProg_t (x) : famProg.t x = tP x := rfl
theorem fitE_tE (e : Ex) : fitE e → fitE (tE e) := by
  refine Ex.ind (p := fun e => fitE e → fitE (tE e)) (fun k n nn ks ih hf => ?_) e
  rw [fitE_mk] at hf
  rw [tE_mk, fitE_mk]
  refine ⟨by simpa using hf.1, fun x hx => ?_⟩
  obtain ⟨y, hy, rfl⟩ := List.mem_map.1 hx
  exact ih y hy (hf.2 y hy)
theorem fitP_tP (e : Pg) : fitP e → fitP (tP e) := by
  refine Pg.ind (p := fun e => fitP e → fitP (tP e)) (fun k n c nn ks ih hf => ?_) e
  rw [fitP_mk] at hf
  rw [tP_mk, fitP_mk]
  refine ⟨fitE_tE c hf.1, by simpa using hf.2.1, fun x hx => ?_⟩
  obtain ⟨y, hy, rfl⟩ := List.mem_map.1 hx
  exact ih y hy (hf.2.2 y hy)
theorem cntP_tP : ∀ e : Pg, cntP (tP e) = cntP e :=
  Pg.ind fun k n c nn ks ih => by
    rw [tP_mk, cntP_mk, cntP_mk, cntE0_tE, cntL_congr ih]
theorem cntP_eq (e : Pg) : cntP e = 4 + cntP0 e := by
  obtain ⟨k, n, c, nn, ks⟩ := e
  rw [cntP_mk, cntP0_mk]; omega
theorem cntP0_tP (e : Pg) : cntP0 (tP e) = cntP0 e := by
  have := cntP_tP e
  rw [cntP_eq, cntP_eq] at this
  omega
theorem cntE_size : ∀ e : Ex, cntE e = 2 * sizeE e :=
  Ex.ind fun k n nn ks ih => by
    rw [cntE_mk, sizeE_mk]
    have : ∀ {l : List Ex}, (∀ x ∈ l, cntE x = 2 * sizeE x) → cntL cntE l = 2 * sizeEs l := by
      intro l
      induction l with
      | nil => intro _; rfl
      | cons x l il => intro h; simp only [cntL, sizeEs, h x (by simp), il fun y hy => h y (by simp [hy])]; omega
    rw [this ih]; omega
theorem progR_cnt (g : Int × Int) (p : Pg) : cntE0 (progR g p).1 ≤ 2000000000 := by
  unfold progR
  split
  · rw [cntE0_mk]; simp [cntL]
  split
  · rw [cntE0_mk]; simp [cntL]
  · next _ h =>
    have h2 : okE g (progE p) = true := by
      cases ho : okE g (progE p) with
      | true => rfl
      | false => simp [ho] at h
    simp only [okE, Bool.and_eq_true, decide_eq_true_eq] at h2
    have h3 := cntE_size (progE p)
    rw [cntE_eq] at h3
    have := h2.1
    show cntE0 (progE p) ≤ _
    omega
theorem szP_cnt : ∀ (e : Pg) (l : Int), 0 ≤ l → l ≤ 1048576 → 0 ≤ szP e l → (cntP0 e : Int) ≤ 4 * (l - szP e l) :=
  Pg.ind fun k n c nn ks ih l h1 h2 h => by
    have key : ∀ (ks : List Pg), (∀ e ∈ ks, ∀ l : Int, 0 ≤ l → l ≤ 1048576 → 0 ≤ szP e l → (cntP0 e : Int) ≤ 4 * (l - szP e l)) → ∀ m : Int, 0 ≤ m → m ≤ 1048576 → 0 ≤ szL szP ks m → (cntL cntP ks : Int) ≤ 4 * (m - szL szP ks m) + 4 * ks.length := by
      intro ks
      induction ks with
      | nil => intro _ m _ _ _; simp [cntL, szL]
      | cons x ks ihk =>
        intro hx m m1 m2 m3
        have hm : ¬ m < 0 := by omega
        simp only [szL, if_neg hm] at m3 ⊢
        have hin := szP_in x m m1 m2
        have h0 : 0 ≤ szP x m := by
          refine Classical.byContradiction fun hn => ?_
          rw [szL_neg (by omega)] at m3
          omega
        have e1 := hx x (by simp) m m1 m2 h0
        have e2 := ihk (fun e he => hx e (by simp [he])) (szP x m) h0 (by omega) m3
        simp only [cntL, cntP_eq, List.length_cons]
        push_cast
        omega
    rw [szP_mk] at h ⊢
    obtain ⟨p1, p2⟩ := nx_fit h
    have q1 := szE_cnt c l h1 h2 p1
    have q2 := szE_in c l h1 h2
    rw [nx_pos (show ¬ szE c l < 0 by omega)]
    obtain ⟨p3, p4⟩ := nx_fit p2
    rw [nx_pos (by omega)]
    simp only [szS] at p3 ⊢
    have hc : 0 ≤ cut (szE c l - ks.length) := by
      refine Classical.byContradiction fun hn => ?_
      rw [szL_neg (by omega)] at p3
      omega
    obtain ⟨c1, c2⟩ := cut_nonneg hc
    have := key ks ih (cut (szE c l - ks.length)) hc (by omega) p3
    rw [cntP0_mk]
    push_cast
    omega
theorem law (g : Int × Int) (q : Pg) : AF Try.prog 10 [eG g, eP q] (.own (eB true)) := by
  obtain ⟨qk, qn, qck, qcn, qcnn, qcks, qnn, qks, rfl⟩ := Pg.ex q
  rw [eP_mk2]
  refine af_of_res res10 mixed rfl fun hbd => ?_
  simp +contextual -implicitDefEqProofs only [rc10, eP_mk2, eE_mk, eG, eI, eB, bne_self_eq_false, go_sem, ↓reduceIte, Nat.reduceEqDiff, Nat.reduceAdd, Nat.reduceLeDiff, Nat.reduceMul, Nat.reduceBEq, Nat.reduceBneDiff, Nat.reduceLT, Nat.reduceSub, Bool.false_eq_true, List.cons_append, List.nil_append]
  refine callQ_self (ds := [eP (Pg.mk qk qn (.mk qck qcn qcnn qcks) qnn qks), eI 1048576]) ?_ (famProg.afS (Pg.mk qk qn (.mk qck qcn qcnn qcks) qnn qks) 1048576 (by omega) (by omega)) ?_
  · simp only [eP_mk2, eE_mk, eG, eI, eB, bne_self_eq_false]; exact rfl
  simp +contextual -implicitDefEqProofs only [eP_mk2, eE_mk, eG, eI, eB, bne_self_eq_false, go_sem, ↓reduceIte, Nat.reduceEqDiff, Nat.reduceAdd, Nat.reduceLeDiff, Nat.reduceMul, Nat.reduceBEq, Nat.reduceBneDiff, Nat.reduceLT, Nat.reduceSub, Bool.false_eq_true, List.cons_append, List.nil_append]
  have sb0 := famProg.s_in (Pg.mk qk qn (.mk qck qcn qcnn qcks) qnn qks) 1048576 (by omega) (by omega)
  refine fun hs0 => ?_
  have hf0 := famProg.s_fit (Pg.mk qk qn (.mk qck qcn qcnn qcks) qnn qks) 1048576 (by omega) (by omega) (by omega)
  refine callQ_self (ds := [eG g]) ?_ (af50 g) ?_
  · simp only [eP_mk2, eE_mk, eG, eI, eB, bne_self_eq_false]; exact rfl
  simp +contextual -implicitDefEqProofs only [eP_mk2, eE_mk, eG, eI, eB, bne_self_eq_false, go_sem, ↓reduceIte, Nat.reduceEqDiff, Nat.reduceAdd, Nat.reduceLeDiff, Nat.reduceMul, Nat.reduceBEq, Nat.reduceBneDiff, Nat.reduceLT, Nat.reduceSub, Bool.false_eq_true, List.cons_append, List.nil_append]
  have hto := famProg.afT (Pg.mk qk qn (.mk qck qcn qcnn qcks) qnn qks) hf0
  have hfT : fitP (famProg.t (Pg.mk qk qn (.mk qck qcn qcnn qcks) qnn qks)) := fitP_tP _ hf0
  have hsp := af58 g (famProg.t (Pg.mk qk qn (.mk qck qcn qcnn qcks) qnn qks)) hfT
  have him := af60 g (famProg.t (Pg.mk qk qn (.mk qck qcn qcnn qcks) qnn qks)) hfT
  have hqE := fun x => famExpr.afQ x x
  simp only [famExpr.q_refl] at hqE
  have hqP := famProg.afQ (famProg.t (Pg.mk qk qn (.mk qck qcn qcnn qcks) qnn qks)) (famProg.t (Pg.mk qk qn (.mk qck qcn qcnn qcks) qnn qks))
  rw [famProg.q_refl] at hqP
  have hc0 : (cntP0 (famProg.t (Pg.mk qk qn (.mk qck qcn qcnn qcks) qnn qks)) : Int) ≤ 8388608 := by
    have h := szP_cnt (Pg.mk qk qn (.mk qck qcn qcnn qcks) qnn qks) 1048576 (by omega) (by omega) (Int.not_lt.1 hs0)
    have e : cntP0 (famProg.t (Pg.mk qk qn (.mk qck qcn qcnn qcks) qnn qks)) = cntP0 (Pg.mk qk qn (.mk qck qcn qcnn qcks) qnn qks) := cntP0_tP _
    have h' : 0 ≤ szP (Pg.mk qk qn (.mk qck qcn qcnn qcks) qnn qks) 1048576 := Int.not_lt.1 hs0
    rw [e]; omega
  have hM0 := af62 (famProg.t (Pg.mk qk qn (.mk qck qcn qcnn qcks) qnn qks)) 1 (by omega) (by unfold maxK; omega)
  have hcR := progR_cnt g (famProg.t (Pg.mk qk qn (.mk qck qcn qcnn qcks) qnn qks))
  generalize progR g (famProg.t (Pg.mk qk qn (.mk qck qcn qcnn qcks) qnn qks)) = r at hsp him hcR
  generalize mkP0 (famProg.t (Pg.mk qk qn (.mk qck qcn qcnn qcks) qnn qks)) 1 = mP at hM0
  generalize cntP0 (famProg.t (Pg.mk qk qn (.mk qck qcn qcnn qcks) qnn qks)) = cP at hM0 hc0
  generalize famProg.t (Pg.mk qk qn (.mk qck qcn qcnn qcks) qnn qks) = wP at hto hsp him hqP hM0
  obtain ⟨wk, wn, wck, wcn, wcnn, wcks, wnn, wks, rfl⟩ := Pg.ex wP
  obtain ⟨mk_, mn, mck, mcn, mcnn, mcks, mnn, mks, rfl⟩ := Pg.ex mP
  obtain ⟨r, c⟩ := r
  obtain ⟨rk, rn, rnn, rks, rfl⟩ := Ex.ex r
  simp only at hsp him hcR
  have hM1 := af26 (Ex.mk rk rn rnn rks) 1 (by omega) (by unfold maxK; omega)
  have hH1 := af63 (Ex.mk rk rn rnn rks) 1 (by omega) (by unfold maxK; omega)
  generalize cntE0 (Ex.mk rk rn rnn rks) = cR at hM1 hH1 hcR
  generalize mkE0 (Ex.mk rk rn rnn rks) 1 = nE at hM1 hH1
  obtain ⟨nk, nn_, nnn, nks, rfl⟩ := Ex.ex nE
  have hk0 : ¬ (1 + (cP : Int) < 0) := by omega
  have hk1 : ¬ (1 + (cR : Int) < 0) := by omega
  simp only [eP_mk2, eE_mk] at hto hsp him hqP hM0 hM1 hH1
  have hqE := hqE (Ex.mk rk rn rnn rks)
  simp only [eE_mk] at hqE
  refine callQ_self ?_ (hto) ?_
  · exact rfl
  simp +contextual -implicitDefEqProofs only [eP_mk2, eE_mk, eG, eI, eB, bne_self_eq_false, go_sem, ↓reduceIte, Nat.reduceEqDiff, Nat.reduceAdd, Nat.reduceLeDiff, Nat.reduceMul, Nat.reduceBEq, Nat.reduceBneDiff, Nat.reduceLT, Nat.reduceSub, Bool.false_eq_true, List.cons_append, List.nil_append]
  refine callQ_self ?_ (hsp) ?_
  · exact rfl
  simp +contextual -implicitDefEqProofs only [eP_mk2, eE_mk, eG, eI, eB, bne_self_eq_false, go_sem, ↓reduceIte, Nat.reduceEqDiff, Nat.reduceAdd, Nat.reduceLeDiff, Nat.reduceMul, Nat.reduceBEq, Nat.reduceBneDiff, Nat.reduceLT, Nat.reduceSub, Bool.false_eq_true, List.cons_append, List.nil_append]
  refine callQ_self ?_ (hto) ?_
  · exact rfl
  simp +contextual -implicitDefEqProofs only [eP_mk2, eE_mk, eG, eI, eB, bne_self_eq_false, go_sem, ↓reduceIte, Nat.reduceEqDiff, Nat.reduceAdd, Nat.reduceLeDiff, Nat.reduceMul, Nat.reduceBEq, Nat.reduceBneDiff, Nat.reduceLT, Nat.reduceSub, Bool.false_eq_true, List.cons_append, List.nil_append]
  refine callQ_self (ds := [eG g]) ?_ (af50 g) ?_
  · simp only [eP_mk2, eE_mk, eG, eI, eB, bne_self_eq_false]; exact rfl
  simp +contextual -implicitDefEqProofs only [eP_mk2, eE_mk, eG, eI, eB, bne_self_eq_false, go_sem, ↓reduceIte, Nat.reduceEqDiff, Nat.reduceAdd, Nat.reduceLeDiff, Nat.reduceMul, Nat.reduceBEq, Nat.reduceBneDiff, Nat.reduceLT, Nat.reduceSub, Bool.false_eq_true, List.cons_append, List.nil_append]
  refine callQ_self ?_ (him) ?_
  · exact rfl
  simp +contextual -implicitDefEqProofs only [eP_mk2, eE_mk, eG, eI, eB, bne_self_eq_false, go_sem, ↓reduceIte, Nat.reduceEqDiff, Nat.reduceAdd, Nat.reduceLeDiff, Nat.reduceMul, Nat.reduceBEq, Nat.reduceBneDiff, Nat.reduceLT, Nat.reduceSub, Bool.false_eq_true, List.cons_append, List.nil_append]
  refine callQ_self ?_ (hqE) ?_
  · exact rfl
  simp +contextual -implicitDefEqProofs only [Bool.not_true, eP_mk2, eE_mk, eG, eI, eB, bne_self_eq_false, go_sem, ↓reduceIte, Nat.reduceEqDiff, Nat.reduceAdd, Nat.reduceLeDiff, Nat.reduceMul, Nat.reduceBEq, Nat.reduceBneDiff, Nat.reduceLT, Nat.reduceSub, Bool.false_eq_true, List.cons_append, List.nil_append]
  refine callQ_self ?_ (hto) ?_
  · exact rfl
  simp +contextual -implicitDefEqProofs only [eP_mk2, eE_mk, eG, eI, eB, bne_self_eq_false, go_sem, ↓reduceIte, Nat.reduceEqDiff, Nat.reduceAdd, Nat.reduceLeDiff, Nat.reduceMul, Nat.reduceBEq, Nat.reduceBneDiff, Nat.reduceLT, Nat.reduceSub, Bool.false_eq_true, List.cons_append, List.nil_append]
  refine callQ_self ?_ (hqP) ?_
  · exact rfl
  simp +contextual -implicitDefEqProofs only [Bool.not_true, eP_mk2, eE_mk, eG, eI, eB, bne_self_eq_false, go_sem, ↓reduceIte, Nat.reduceEqDiff, Nat.reduceAdd, Nat.reduceLeDiff, Nat.reduceMul, Nat.reduceBEq, Nat.reduceBneDiff, Nat.reduceLT, Nat.reduceSub, Bool.false_eq_true, List.cons_append, List.nil_append]
  refine ⟨eP (Pg.mk mk_ mn (.mk mck mcn mcnn mcks) mnn mks), 1 + cP, (by rw [eP_mk2]; exact hM0), ⟨rfl, fun _ => rfl, rfl⟩, ?_⟩
  simp +contextual -implicitDefEqProofs only [hk0, D.put, D.cells, D.size, D.sizeL, D.isAg, D.at, D.sub, eP_mk2, eE_mk, eG, eI, eB, bne_self_eq_false, go_sem, ↓reduceIte, Nat.reduceEqDiff, Nat.reduceAdd, Nat.reduceLeDiff, Nat.reduceMul, Nat.reduceBEq, Nat.reduceBneDiff, Nat.reduceLT, Nat.reduceSub, Bool.false_eq_true, List.cons_append, List.nil_append]
  refine callQ_self ?_ (hqE) ?_
  · exact rfl
  simp +contextual -implicitDefEqProofs only [Bool.not_true, eP_mk2, eE_mk, eG, eI, eB, bne_self_eq_false, go_sem, ↓reduceIte, Nat.reduceEqDiff, Nat.reduceAdd, Nat.reduceLeDiff, Nat.reduceMul, Nat.reduceBEq, Nat.reduceBneDiff, Nat.reduceLT, Nat.reduceSub, Bool.false_eq_true, List.cons_append, List.nil_append]
  refine ⟨eE (Ex.mk nk nn_ nnn nks), 1 + cR, (by rw [eE_mk]; exact hM1), ⟨rfl, fun _ => rfl, rfl⟩, ?_⟩
  simp +contextual -implicitDefEqProofs only [D.put, D.cells, D.size, D.sizeL, D.isAg, D.at, D.sub, eP_mk2, eE_mk, eG, eI, eB, bne_self_eq_false, go_sem, ↓reduceIte, Nat.reduceEqDiff, Nat.reduceAdd, Nat.reduceLeDiff, Nat.reduceMul, Nat.reduceBEq, Nat.reduceBneDiff, Nat.reduceLT, Nat.reduceSub, Bool.false_eq_true, List.cons_append, List.nil_append]
  refine callQ_self ?_ (hH1) ?_
  · exact rfl
  simp +contextual -implicitDefEqProofs only [hk1, eP_mk2, eE_mk, eG, eI, eB, bne_self_eq_false, go_sem, ↓reduceIte, Nat.reduceEqDiff, Nat.reduceAdd, Nat.reduceLeDiff, Nat.reduceMul, Nat.reduceBEq, Nat.reduceBneDiff, Nat.reduceLT, Nat.reduceSub, Bool.false_eq_true, List.cons_append, List.nil_append]
  refine callQ_self (ds := [eG g]) ?_ (af50 g) ?_
  · simp only [eP_mk2, eE_mk, eG, eI, eB, bne_self_eq_false]; exact rfl
  simp +contextual -implicitDefEqProofs only [eP_mk2, eE_mk, eG, eI, eB, bne_self_eq_false, go_sem, ↓reduceIte, Nat.reduceEqDiff, Nat.reduceAdd, Nat.reduceLeDiff, Nat.reduceMul, Nat.reduceBEq, Nat.reduceBneDiff, Nat.reduceLT, Nat.reduceSub, Bool.false_eq_true, List.cons_append, List.nil_append]
  refine callQ_self ?_ (hto) ?_
  · exact rfl
  simp +contextual -implicitDefEqProofs only [eP_mk2, eE_mk, eG, eI, eB, bne_self_eq_false, go_sem, ↓reduceIte, Nat.reduceEqDiff, Nat.reduceAdd, Nat.reduceLeDiff, Nat.reduceMul, Nat.reduceBEq, Nat.reduceBneDiff, Nat.reduceLT, Nat.reduceSub, Bool.false_eq_true, List.cons_append, List.nil_append]
  refine callQ_self ?_ (him) ?_
  · exact rfl
  simp +contextual -implicitDefEqProofs only [eP_mk2, eE_mk, eG, eI, eB, bne_self_eq_false, go_sem, ↓reduceIte, Nat.reduceEqDiff, Nat.reduceAdd, Nat.reduceLeDiff, Nat.reduceMul, Nat.reduceBEq, Nat.reduceBneDiff, Nat.reduceLT, Nat.reduceSub, Bool.false_eq_true, List.cons_append, List.nil_append]
  refine callQ_self ?_ (hqE) ?_
  · exact rfl
  simp +contextual -implicitDefEqProofs only [Bool.not_true, eP_mk2, eE_mk, eG, eI, eB, bne_self_eq_false, go_sem, ↓reduceIte, Nat.reduceEqDiff, Nat.reduceAdd, Nat.reduceLeDiff, Nat.reduceMul, Nat.reduceBEq, Nat.reduceBneDiff, Nat.reduceLT, Nat.reduceSub, Bool.false_eq_true, List.cons_append, List.nil_append]
  refine callQ_self ?_ (hH1) ?_
  · exact rfl
  simp +contextual -implicitDefEqProofs only [hk1, eP_mk2, eE_mk, eG, eI, eB, bne_self_eq_false, go_sem, ↓reduceIte, Nat.reduceEqDiff, Nat.reduceAdd, Nat.reduceLeDiff, Nat.reduceMul, Nat.reduceBEq, Nat.reduceBneDiff, Nat.reduceLT, Nat.reduceSub, Bool.false_eq_true, List.cons_append, List.nil_append]
end Go.Ax
