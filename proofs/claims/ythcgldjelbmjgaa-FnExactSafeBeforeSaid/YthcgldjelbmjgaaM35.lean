/- Contracts of functions of the seat, proved over the engine. No condition. -/
import Derived.Test.YthcgldjelbmjgaaX53
import Derived.Test.YthcgldjelbmjgaaX46
import Derived.Test.YthcgldjelbmjgaaAxI
import Derived.Test.YthcgldjelbmjgaaChecked
set_option linter.unusedSimpArgs false
set_option linter.unusedVariables false
set_option linter.unnecessarySimpa false
namespace Go.Ax
open Go.Proofs
set_option linter.unusedSimpArgs false
theorem mixed : Try.prog.follows .mixedOrders = true := by kernel_rfl
theorem res169 : resF Try.prog 169 = some (12, cSzP, [.t 4]) := by kernel_rfl
theorem res85 : resF Try.prog 85 = some (27, cSzC 169 1 false, [.t 4]) := by kernel_rfl
theorem res86 : resF Try.prog 86 = some (27, cSzC 85 1 false, [.t 4]) := by kernel_rfl

def rc15 : RC := (.seq (.reg false [⟨none, .box 2 5 (.t 0)⟩, ⟨none, .mv 4 (.c (.sc (.int .i64 0)))⟩]) ((.seq (.reg false [⟨none, .fa 5 3 (.t 2)⟩, ⟨none, .ld 6 false 1 (.t 5)⟩, ⟨none, .mv 7 (.t 1)⟩, ⟨none, .call (some 8) 85 [(.t 6), (.t 7)]⟩, ⟨none, .mv 1 (.t 8)⟩]) ((.seq ((.seq (.reg false [⟨none, .mv 9 (.t 1)⟩, ⟨none, .bin 10 .lss (.t 9) (.c (.sc (.int .i64 0)))⟩]) (.cond (.t 10) ((.seq (.reg false [⟨none, .mv 4 (.c (.sc (.int .i64 (-1))))⟩]) (.ret))) (.skip)))) ((.seq (.reg false [⟨none, .fa 11 4 (.t 2)⟩, ⟨none, .ld 12 false 1 (.t 11)⟩, ⟨none, .mv 13 (.t 1)⟩, ⟨none, .call (some 14) 86 [(.t 12), (.t 13)]⟩, ⟨none, .mv 1 (.t 14)⟩]) ((.seq ((.seq (.reg false [⟨none, .mv 15 (.t 1)⟩, ⟨none, .bin 16 .lss (.t 15) (.c (.sc (.int .i64 0)))⟩]) (.cond (.t 16) ((.seq (.reg false [⟨none, .mv 4 (.c (.sc (.int .i64 (-1))))⟩]) (.ret))) (.skip)))) ((.seq (.reg false [⟨none, .mv 17 (.t 1)⟩, ⟨none, .mv 4 (.t 17)⟩]) (.ret))))))))))))
theorem res15 : resF Try.prog 15 = some (18, rc15, [.t 4]) := by kernel_rfl
theorem res87 : resF Try.prog 87 = some (27, cSzC 16 3 true, [.t 4]) := by kernel_rfl
theorem res16 : resF Try.prog 16 = some (12, k_szExpr 87, [.t 4]) := by kernel_rfl
theorem res50 : resF Try.prog 50 = some (11, k_toSig, [.c 2 2 true]) := by kernel_rfl
theorem af50 : K_toSig Try.prog 50 := a_toSig mixed res50
theorem res172 : resF Try.prog 172 = some (22, cToS 1 (.sc (.bool false)), [.t 2]) := by kernel_rfl
theorem res90 : resF Try.prog 90 = some (23, cToC 172 1 24 false (.ls (some true) 1 []), [.t 2]) := by kernel_rfl
theorem res91 : resF Try.prog 91 = some (23, cToC 90 1 24 false (.ls (some true) 1 []), [.t 2]) := by kernel_rfl

def rc18 : RC := (.seq (.reg false [⟨none, .box 1 5 (.t 0)⟩, ⟨none, .zer 2 5 (.ag [(.sc (.int .i64 0)), (.sc (.int .i64 0)), (.sc (.int .i64 0)), (.ls (some true) 1 []), (.ls (some true) 1 [])])⟩]) ((.seq (.reg false [⟨none, .zer 3 5 (.ag [(.sc (.int .i64 0)), (.sc (.int .i64 0)), (.sc (.int .i64 0)), (.ls (some true) 1 []), (.ls (some true) 1 [])])⟩]) ((.seq (.reg false [⟨none, .fa 4 0 (.t 1)⟩, ⟨none, .ld 5 true 2 (.t 4)⟩, ⟨none, .call (some 6) 50 [(.t 5)]⟩, ⟨none, .fa 7 0 (.t 3)⟩, ⟨none, .st 2 (.t 7) (.t 6)⟩]) ((.seq (.reg false [⟨none, .fa 8 2 (.t 1)⟩, ⟨none, .ld 9 false 1 (.t 8)⟩, ⟨none, .fa 10 2 (.t 3)⟩, ⟨none, .st 1 (.t 10) (.t 9)⟩]) ((.seq (.reg false [⟨none, .fa 11 3 (.t 1)⟩, ⟨none, .ld 12 false 1 (.t 11)⟩, ⟨none, .call (some 13) 90 [(.t 12)]⟩, ⟨none, .fa 14 3 (.t 3)⟩, ⟨none, .st 1 (.t 14) (.t 13)⟩]) ((.seq (.reg false [⟨none, .fa 15 4 (.t 1)⟩, ⟨none, .ld 16 false 1 (.t 15)⟩, ⟨none, .call (some 17) 91 [(.t 16)]⟩, ⟨none, .fa 18 4 (.t 3)⟩, ⟨none, .st 1 (.t 18) (.t 17)⟩]) ((.seq (.reg false [⟨none, .ld 19 true 5 (.t 3)⟩, ⟨none, .st 5 (.t 2) (.t 19)⟩]) (.ret))))))))))))))
theorem res18 : resF Try.prog 18 = some (20, rc18, [.c 2 5 true]) := by kernel_rfl
theorem res92 : resF Try.prog 92 = some (23, cToC 19 3 40 true (.ag [(.sc (.int .i64 0)), (.sc (.int .i64 0)), (.ls (some true) 3 [])]), [.t 2]) := by kernel_rfl
theorem res19 : resF Try.prog 19 = some (15, k_toExpr 92, [.c 2 3 true]) := by kernel_rfl
theorem res20 : resF Try.prog 20 = some (22, cToS 8 (.sc (.int .i64 0)), [.t 2]) := by kernel_rfl
theorem res159 : resF Try.prog 159 = some (15, k_l00In, [.t 6]) := by kernel_rfl
theorem af159 : K_l00In Try.prog 159 := a_l00In mixed res159
theorem res148 : resF Try.prog 148 = some (11, k_l01Sig 159, [.t 2]) := by kernel_rfl
theorem af148 : K_l01Sig Try.prog 148 := a_l01Sig mixed res148 af159
theorem res186 : resF Try.prog 186 = some (36, k_l05Tests 148 159, [.t 6]) := by kernel_rfl
theorem af186 : K_l05Tests Try.prog 186 := a_l05Tests mixed res186 af148 af159
theorem res120 : resF Try.prog 120 = some (82, k_l05Ok 186, [.t 2]) := by kernel_rfl
theorem af120 : K_l05Ok Try.prog 120 := a_l05Ok mixed res120 af186
theorem res187 : resF Try.prog 187 = some (30, k_l01Left 187, [.t 4]) := by kernel_rfl
theorem af187 : K_l01Left Try.prog 187 := a_l01Left mixed res187
theorem res239 : resF Try.prog 239 = some (10, k_l00Max, [.t 4]) := by kernel_rfl
theorem af239 : K_l00Max Try.prog 239 := a_l00Max mixed res239
theorem res188 : resF Try.prog 188 = some (25, k_l01Depth 188 239, [.t 2]) := by kernel_rfl
theorem af188 : K_l01Depth Try.prog 188 := a_l01Depth mixed res188 af239
theorem res240 : resF Try.prog 240 = some (15, k_l01Kids, [.t 2]) := by kernel_rfl
theorem af240 : K_l01Kids Try.prog 240 := a_l01Kids mixed res240
theorem res241 : resF Try.prog 241 = some (34, k_l01Condition 241 159, [.t 2]) := by kernel_rfl
theorem af241 : K_l01Condition Try.prog 241 := a_l01Condition mixed res241 af159
theorem res189 : resF Try.prog 189 = some (80, k_l01Tree 189 240 159 241, [.t 4]) := by kernel_rfl
theorem af189 : K_l01Tree Try.prog 189 := a_l01Tree mixed res189 af240 af159 af241
theorem res110 : resF Try.prog 110 = some (22, k_l01Ok 148 187 188 189, [.t 4]) := by kernel_rfl
theorem af110 : K_l01Ok Try.prog 110 := a_l01Ok mixed res110 af148 af187 af188 af189
theorem res153 : resF Try.prog 153 = some (39, k_l05Set 159, [.t 4]) := by kernel_rfl
theorem af153 : K_l05Set Try.prog 153 := a_l05Set mixed res153 af159
theorem res88 : resF Try.prog 88 = some (23, k_l05Asked 120 110 153, [.t 6]) := by kernel_rfl
theorem af88 : K_l05Asked Try.prog 88 := a_l05Asked mixed res88 af120 af110 af153
theorem res121 : resF Try.prog 121 = some (17, k_l05None, [.t 2]) := by kernel_rfl
theorem af121 : K_l05None Try.prog 121 := a_l05None mixed res121
theorem res170 : resF Try.prog 170 = some (62, k_l05Dot 121, [.t 4]) := by kernel_rfl
theorem af170 : K_l05Dot Try.prog 170 := a_l05Dot mixed res170 af121
theorem res171 : resF Try.prog 171 = some (82, k_l05Star 121, [.t 2]) := by kernel_rfl
theorem af171 : K_l05Star Try.prog 171 := a_l05Star mixed res171 af121
theorem res89 : resF Try.prog 89 = some (201, k_l05Rel 89 121 170 171, [.t 4]) := by kernel_rfl
theorem af89 : K_l05Rel Try.prog 89 := a_l05Rel mixed res89 af121 af170 af171
theorem res106 : resF Try.prog 106 = some (18, k_l05Has, [.t 4]) := by kernel_rfl
theorem af106 : K_l05Has Try.prog 106 := a_l05Has mixed res106
theorem res29 : resF Try.prog 29 = some (56, k_spSafe 88 89 106, [.t 6, .t 7]) := by kernel_rfl
theorem af29 : K_spSafe Try.prog 29 := a_spSafe mixed res29 af88 af89 af106
theorem res158 : resF Try.prog 158 = some (15, k_within, [.t 6]) := by kernel_rfl
theorem af158 : K_within Try.prog 158 := a_within mixed res158
theorem res207 : resF Try.prog 207 = some (11, k_validSig 158, [.t 2]) := by kernel_rfl
theorem af207 : K_validSig Try.prog 207 := a_validSig mixed res207 af158
theorem res226 : resF Try.prog 226 = some (24, k_isTableB, [.t 6]) := by kernel_rfl
theorem af226 : K_isTableB Try.prog 226 := a_isTableB mixed res226
theorem res173 : resF Try.prog 173 = some (46, k_isFrameB 207 158 226, [.t 8]) := by kernel_rfl
theorem af173 : K_isFrameB Try.prog 173 := a_isFrameB mixed res173 af207 af158 af226
theorem res93 : resF Try.prog 93 = some (12, k_validModel 173, [.t 2]) := by kernel_rfl
theorem af93 : K_validModel Try.prog 93 := a_validModel mixed res93 af173
theorem res236 : resF Try.prog 236 = some (15, k_kidsOf, [.t 2]) := by kernel_rfl
theorem af236 : K_kidsOf Try.prog 236 := a_kidsOf mixed res236
theorem res237 : resF Try.prog 237 = some (25, k_isCondition 237, [.t 2]) := by kernel_rfl
theorem af237 : K_isCondition Try.prog 237 := a_isCondition mixed res237
theorem res174 : resF Try.prog 174 = some (86, k_shaped 174 236 158 237, [.t 8, .t 9]) := by kernel_rfl
theorem af174 : K_shaped Try.prog 174 := a_shaped mixed res174 af236 af158 af237
theorem res94 : resF Try.prog 94 = some (14, k_isExpr 174, [.t 4]) := by kernel_rfl
theorem af94 : K_isExpr Try.prog 94 := a_isExpr mixed res94 af174
theorem res175 : resF Try.prog 175 = some (20, k_ascending, [.t 2]) := by kernel_rfl
theorem af175 : K_ascending Try.prog 175 := a_ascending mixed res175
theorem res176 : resF Try.prog 176 = some (19, k_inRange 158, [.t 4]) := by kernel_rfl
theorem af176 : K_inRange Try.prog 176 := a_inRange mixed res176 af158
theorem res95 : resF Try.prog 95 = some (13, k_isSet 175 176, [.t 4]) := by kernel_rfl
theorem af95 : K_isSet Try.prog 95 := a_isSet mixed res95 af175 af176
theorem res123 : resF Try.prog 123 = some (33, k_tableB, [.t 4]) := by kernel_rfl
theorem af123 : K_tableB Try.prog 123 := a_tableB mixed res123
theorem res238 : resF Try.prog 238 = some (30, k_composed1, [.t 6]) := by kernel_rfl
theorem af238 : K_composed1 Try.prog 238 := a_composed1 mixed res238
theorem res178 : resF Try.prog 178 = some (9, k_composed 123 238, [.t 4]) := by kernel_rfl
theorem af178 : K_composed Try.prog 178 := a_composed mixed res178 af123 af238
theorem res177 : resF Try.prog 177 = some (19, k_relation1, [.t 6]) := by kernel_rfl
theorem af177 : K_relation1 Try.prog 177 := a_relation1 mixed res177
theorem res179 : resF Try.prog 179 = some (20, k_relation2, [.t 5]) := by kernel_rfl
theorem af179 : K_relation2 Try.prog 179 := a_relation2 mixed res179
theorem res180 : resF Try.prog 180 = some (70, k_relation3, [.t 7]) := by kernel_rfl
theorem af180 : K_relation3 Try.prog 180 := a_relation3 mixed res180
theorem res96 : resF Try.prog 96 = some (60, k_relation 96 123 178 177 179 180, [.t 4]) := by kernel_rfl
theorem af96 : K_relation Try.prog 96 := a_relation mixed res96 af123 af178 af177 af179 af180
theorem res184 : resF Try.prog 184 = some (19, k_indexI, [.t 4]) := by kernel_rfl
theorem af184 : K_indexI Try.prog 184 := a_indexI mixed res184
theorem res107 : resF Try.prog 107 = some (9, k_containsI 184, [.t 4]) := by kernel_rfl
theorem af107 : K_containsI Try.prog 107 := a_containsI mixed res107 af184
theorem res30 : resF Try.prog 30 = some (63, k_imSafe 93 94 95 96 107, [.t 6, .t 7]) := by kernel_rfl
theorem af30 : K_imSafe Try.prog 30 := a_imSafe mixed res30 af93 af94 af95 af96 af107
theorem res22 : resF Try.prog 22 = some (26, cEqS, [.t 4]) := by kernel_rfl
theorem res99 : resF Try.prog 99 = some (15, k_eqSig, [.t 4]) := by kernel_rfl
theorem af99 : K_eqSig Try.prog 99 := a_eqSig mixed res99
theorem res182 : resF Try.prog 182 = some (26, cEqB, [.t 4]) := by kernel_rfl
theorem res100 : resF Try.prog 100 = some (27, cEqC 182 1 false, [.t 4]) := by kernel_rfl
theorem res101 : resF Try.prog 101 = some (27, cEqC 100 1 false, [.t 4]) := by kernel_rfl

def rc23 : RC := (.seq (.reg false [⟨none, .box 2 5 (.t 0)⟩, ⟨none, .box 3 5 (.t 1)⟩, ⟨none, .mv 4 (.c (.sc (.bool false)))⟩]) ((.seq ((.seq (.reg false [⟨none, .fa 5 0 (.t 2)⟩, ⟨none, .ld 6 true 2 (.t 5)⟩, ⟨none, .fa 7 0 (.t 3)⟩, ⟨none, .ld 8 true 2 (.t 7)⟩, ⟨none, .call (some 9) 99 [(.t 6), (.t 8)]⟩, ⟨none, .un 10 .not (.t 9)⟩]) (.cond (.t 10) ((.seq (.reg false [⟨none, .mv 4 (.c (.sc (.bool false)))⟩]) (.ret))) (.skip)))) ((.seq ((.seq (.reg false [⟨none, .fa 11 2 (.t 2)⟩, ⟨none, .ld 12 false 1 (.t 11)⟩, ⟨none, .fa 13 2 (.t 3)⟩, ⟨none, .ld 14 false 1 (.t 13)⟩, ⟨none, .bin 15 .neq (.t 12) (.t 14)⟩]) (.cond (.t 15) ((.seq (.reg false [⟨none, .mv 4 (.c (.sc (.bool false)))⟩]) (.ret))) (.skip)))) ((.seq ((.seq (.reg false [⟨none, .fa 16 3 (.t 2)⟩, ⟨none, .ld 17 false 1 (.t 16)⟩, ⟨none, .fa 18 3 (.t 3)⟩, ⟨none, .ld 19 false 1 (.t 18)⟩, ⟨none, .call (some 20) 100 [(.t 17), (.t 19)]⟩, ⟨none, .un 21 .not (.t 20)⟩]) (.cond (.t 21) ((.seq (.reg false [⟨none, .mv 4 (.c (.sc (.bool false)))⟩]) (.ret))) (.skip)))) ((.seq ((.seq (.reg false [⟨none, .fa 22 4 (.t 2)⟩, ⟨none, .ld 23 false 1 (.t 22)⟩, ⟨none, .fa 24 4 (.t 3)⟩, ⟨none, .ld 25 false 1 (.t 24)⟩, ⟨none, .call (some 26) 101 [(.t 23), (.t 25)]⟩, ⟨none, .un 27 .not (.t 26)⟩]) (.cond (.t 27) ((.seq (.reg false [⟨none, .mv 4 (.c (.sc (.bool false)))⟩]) (.ret))) (.skip)))) ((.seq (.reg false [⟨none, .mv 4 (.c (.sc (.bool true)))⟩]) (.ret))))))))))))
theorem res23 : resF Try.prog 23 = some (28, rc23, [.t 4]) := by kernel_rfl
theorem res102 : resF Try.prog 102 = some (27, cEqC 24 3 true, [.t 4]) := by kernel_rfl
theorem res24 : resF Try.prog 24 = some (21, k_eqExpr 102, [.t 4]) := by kernel_rfl
theorem res28 : resF Try.prog 28 = some (21, cHdI, [.t 4]) := by kernel_rfl
theorem res183 : resF Try.prog 183 = some (21, cMkB, [.t 4]) := by kernel_rfl
theorem res103 : resF Try.prog 103 = some (19, cMkC 183, [.t 4]) := by kernel_rfl
theorem res104 : resF Try.prog 104 = some (19, cMkC 103, [.t 4]) := by kernel_rfl

def rc25 : RC := (.seq (.reg false [⟨none, .box 2 5 (.t 0)⟩, ⟨none, .mv 4 (.c (.sc (.int .i64 0)))⟩]) ((.seq (.reg false [⟨none, .fa 5 3 (.t 2)⟩, ⟨none, .ld 6 false 1 (.t 5)⟩, ⟨none, .mv 7 (.t 1)⟩, ⟨none, .mcl 8 103 (.t 6) (.t 7)⟩, ⟨none, .mv 1 (.t 8)⟩]) ((.seq (.reg false [⟨none, .fa 9 4 (.t 2)⟩, ⟨none, .ld 10 false 1 (.t 9)⟩, ⟨none, .mv 11 (.t 1)⟩, ⟨none, .mcl 12 104 (.t 10) (.t 11)⟩, ⟨none, .mv 1 (.t 12)⟩]) ((.seq (.reg false [⟨none, .mv 13 (.t 1)⟩, ⟨none, .mv 4 (.t 13)⟩]) (.ret))))))))
theorem res25 : resF Try.prog 25 = some (14, rc25, [.t 4]) := by kernel_rfl
theorem res105 : resF Try.prog 105 = some (34, k_markExprS 105, [.t 4]) := by kernel_rfl
theorem af105 : K_markExprS Try.prog 105 := a_markExprS mixed res105
theorem res26 : resF Try.prog 26 = some (10, k_markExpr 105, [.t 4]) := by kernel_rfl
theorem af26 : K_markExpr Try.prog 26 := a_markExpr mixed res26 af105
theorem res27 : resF Try.prog 27 = some (19, cMkI, [.t 4]) := by kernel_rfl

def rc4 : RC := (.seq (.reg false [⟨none, .box 3 5 (.t 0)⟩, ⟨none, .box 4 3 (.t 1)⟩, ⟨none, .mv 6 (.c (.sc (.bool false)))⟩]) ((.seq ((.seq (.reg false [⟨none, .mv 20 (.t 2)⟩, ⟨none, .len 21 (.t 20)⟩, ⟨none, .bin 22 .gtr (.t 21) (.c (.sc (.int .i64 1048576)))⟩]) (.cond (.t 22) ((.seq (.reg false [⟨none, .mv 6 (.c (.sc (.bool true)))⟩]) (.ret))) (.skip)))) ((.seq (.reg false [⟨none, .mv 7 (.c (.sc (.int .i64 1048576)))⟩]) ((.seq (.reg false [⟨none, .ld 23 true 5 (.t 3)⟩, ⟨none, .mv 24 (.t 7)⟩, ⟨none, .call (some 25) 15 [(.t 23), (.t 24)]⟩, ⟨none, .mv 7 (.t 25)⟩]) ((.seq ((.seq (.reg false [⟨none, .mv 26 (.t 7)⟩, ⟨none, .bin 27 .lss (.t 26) (.c (.sc (.int .i64 0)))⟩]) (.cond (.t 27) ((.seq (.reg false [⟨none, .mv 6 (.c (.sc (.bool true)))⟩]) (.ret))) (.skip)))) ((.seq (.reg false [⟨none, .ld 28 true 3 (.t 4)⟩, ⟨none, .mv 29 (.t 7)⟩, ⟨none, .call (some 30) 16 [(.t 28), (.t 29)]⟩, ⟨none, .mv 7 (.t 30)⟩]) ((.seq ((.seq (.reg false [⟨none, .mv 31 (.t 7)⟩, ⟨none, .bin 32 .lss (.t 31) (.c (.sc (.int .i64 0)))⟩]) (.cond (.t 32) ((.seq (.reg false [⟨none, .mv 6 (.c (.sc (.bool true)))⟩]) (.ret))) (.skip)))) ((.seq (.reg true [⟨none, .ld 34 true 5 (.t 3)⟩, ⟨none, .call (some 35) 18 [(.t 34)]⟩, ⟨none, .ld 36 true 3 (.t 4)⟩, ⟨none, .call (some 37) 19 [(.t 36)]⟩, ⟨none, .mv 38 (.t 2)⟩, ⟨none, .call (some 39) 20 [(.t 38)]⟩, ⟨none, .call (some 40) 29 [(.t 35), (.t 37), (.t 39)]⟩, ⟨none, .mv 33 (.t 40)⟩, ⟨none, .ext 41 (.t 33) 0⟩, ⟨none, .ext 42 (.t 33) 1⟩, ⟨none, .mv 8 (.t 41)⟩, ⟨none, .mv 9 (.t 42)⟩]) ((.seq (.reg false [⟨none, .ld 43 true 5 (.t 3)⟩, ⟨none, .call (some 44) 18 [(.t 43)]⟩, ⟨none, .zer 10 5 (.ag [(.sc (.int .i64 0)), (.sc (.int .i64 0)), (.sc (.int .i64 0)), (.ls (some true) 1 []), (.ls (some true) 1 [])])⟩, ⟨none, .st 5 (.t 10) (.t 44)⟩]) ((.seq (.reg false [⟨none, .ld 45 true 3 (.t 4)⟩, ⟨none, .call (some 46) 19 [(.t 45)]⟩, ⟨none, .zer 11 3 (.ag [(.sc (.int .i64 0)), (.sc (.int .i64 0)), (.ls (some true) 3 [])])⟩, ⟨none, .st 3 (.t 11) (.t 46)⟩]) ((.seq (.reg false [⟨none, .mv 47 (.t 2)⟩, ⟨none, .call (some 48) 20 [(.t 47)]⟩, ⟨none, .mv 12 (.t 48)⟩]) ((.seq (.reg false [⟨none, .ld 50 true 5 (.t 10)⟩, ⟨none, .ld 51 true 3 (.t 11)⟩, ⟨none, .mv 52 (.t 12)⟩, ⟨none, .call (some 53) 30 [(.t 50), (.t 51), (.t 52)]⟩, ⟨none, .mv 49 (.t 53)⟩, ⟨none, .ext 54 (.t 49) 0⟩, ⟨none, .ext 55 (.t 49) 1⟩, ⟨none, .mv 13 (.t 54)⟩, ⟨none, .mv 14 (.t 55)⟩]) ((.seq ((.seq (.reg false [⟨none, .mv 56 (.t 13)⟩, ⟨none, .mv 57 (.t 8)⟩, ⟨none, .call (some 58) 22 [(.t 56), (.t 57)]⟩, ⟨none, .un 59 .not (.t 58)⟩, ⟨none, .mv 60 (.t 59)⟩, ⟨some (60, false), .mv 61 (.t 14)⟩, ⟨some (60, false), .mv 62 (.t 9)⟩, ⟨some (60, false), .bin 63 .neq (.t 61) (.t 62)⟩, ⟨none, .pick 64 (.t 60) (.c (.sc (.bool true))) (.t 63)⟩]) (.cond (.t 64) ((.seq (.reg false [⟨none, .mv 6 (.c (.sc (.bool false)))⟩]) (.ret))) (.skip)))) ((.seq ((.seq (.reg true [⟨none, .ld 65 true 5 (.t 10)⟩, ⟨none, .ld 66 true 5 (.t 3)⟩, ⟨none, .call (some 67) 18 [(.t 66)]⟩, ⟨none, .call (some 68) 23 [(.t 65), (.t 67)]⟩, ⟨none, .un 69 .not (.t 68)⟩]) (.cond (.t 69) ((.seq (.reg false [⟨none, .mv 6 (.c (.sc (.bool false)))⟩]) (.ret))) (.skip)))) ((.seq ((.seq (.reg true [⟨none, .ld 70 true 3 (.t 11)⟩, ⟨none, .ld 71 true 3 (.t 4)⟩, ⟨none, .call (some 72) 19 [(.t 71)]⟩, ⟨none, .call (some 73) 24 [(.t 70), (.t 72)]⟩, ⟨none, .un 74 .not (.t 73)⟩]) (.cond (.t 74) ((.seq (.reg false [⟨none, .mv 6 (.c (.sc (.bool false)))⟩]) (.ret))) (.skip)))) ((.seq ((.seq (.reg false [⟨none, .mv 75 (.t 12)⟩, ⟨none, .mv 76 (.t 2)⟩, ⟨none, .call (some 77) 20 [(.t 76)]⟩, ⟨none, .call (some 78) 22 [(.t 75), (.t 77)]⟩, ⟨none, .un 79 .not (.t 78)⟩]) (.cond (.t 79) ((.seq (.reg false [⟨none, .mv 6 (.c (.sc (.bool false)))⟩]) (.ret))) (.skip)))) ((.seq (.reg false [⟨none, .mv 15 (.c (.sc (.int .i64 1)))⟩]) ((.seq (.reg false [⟨none, .ld 80 true 5 (.t 10)⟩, ⟨none, .mv 81 (.t 15)⟩, ⟨none, .mcl 82 25 (.t 80) (.t 81)⟩, ⟨none, .mv 15 (.t 82)⟩]) ((.seq (.reg false [⟨none, .ld 83 true 3 (.t 11)⟩, ⟨none, .mv 84 (.t 15)⟩, ⟨none, .mcl 85 26 (.t 83) (.t 84)⟩, ⟨none, .mv 15 (.t 85)⟩]) ((.seq (.reg false [⟨none, .mv 86 (.t 12)⟩, ⟨none, .mv 87 (.t 15)⟩, ⟨none, .mcl 88 27 (.t 86) (.t 87)⟩, ⟨none, .mv 15 (.t 88)⟩]) ((.seq ((.seq (.reg false [⟨none, .mv 89 (.t 15)⟩, ⟨none, .bin 90 .lss (.t 89) (.c (.sc (.int .i64 0)))⟩, ⟨none, .mv 91 (.t 90)⟩, ⟨some (91, false), .mv 92 (.t 13)⟩, ⟨some (91, false), .mv 93 (.t 8)⟩, ⟨some (91, false), .call (some 94) 22 [(.t 92), (.t 93)]⟩, ⟨some (91, false), .un 95 .not (.t 94)⟩, ⟨none, .pick 96 (.t 91) (.c (.sc (.bool true))) (.t 95)⟩, ⟨none, .mv 97 (.t 96)⟩, ⟨some (97, false), .mv 98 (.t 14)⟩, ⟨some (97, false), .mv 99 (.t 9)⟩, ⟨some (97, false), .bin 100 .neq (.t 98) (.t 99)⟩, ⟨none, .pick 101 (.t 97) (.c (.sc (.bool true))) (.t 100)⟩]) (.cond (.t 101) ((.seq (.reg false [⟨none, .mv 6 (.c (.sc (.bool false)))⟩]) (.ret))) (.skip)))) ((.seq (.reg false [⟨none, .mv 16 (.c (.sc (.int .i64 1)))⟩]) ((.seq (.reg false [⟨none, .mv 102 (.t 13)⟩, ⟨none, .mv 103 (.t 16)⟩, ⟨none, .mcl 104 27 (.t 102) (.t 103)⟩, ⟨none, .mv 16 (.t 104)⟩]) ((.seq (.reg false [⟨none, .mv 17 (.c (.sc (.int .i64 1)))⟩]) ((.seq (.reg false [⟨none, .mv 105 (.t 13)⟩, ⟨none, .mv 106 (.t 17)⟩, ⟨none, .call (some 107) 28 [(.t 105), (.t 106)]⟩, ⟨none, .mv 17 (.t 107)⟩]) ((.seq ((.seq (.reg false [⟨none, .mv 108 (.t 17)⟩, ⟨none, .bin 109 .lss (.t 108) (.c (.sc (.int .i64 0)))⟩]) (.cond (.t 109) ((.seq (.reg false [⟨none, .mv 6 (.c (.sc (.bool false)))⟩]) (.ret))) (.skip)))) ((.seq ((.seq (.reg false [⟨none, .mv 110 (.t 17)⟩, ⟨none, .mv 111 (.t 16)⟩, ⟨none, .bin 112 .neq (.t 110) (.t 111)⟩]) (.cond (.t 112) ((.seq (.reg false [⟨none, .mv 6 (.c (.sc (.bool false)))⟩]) (.ret))) (.skip)))) ((.seq (.reg true [⟨none, .ld 114 true 5 (.t 3)⟩, ⟨none, .call (some 115) 18 [(.t 114)]⟩, ⟨none, .ld 116 true 3 (.t 4)⟩, ⟨none, .call (some 117) 19 [(.t 116)]⟩, ⟨none, .mv 118 (.t 2)⟩, ⟨none, .call (some 119) 20 [(.t 118)]⟩, ⟨none, .call (some 120) 30 [(.t 115), (.t 117), (.t 119)]⟩, ⟨none, .mv 113 (.t 120)⟩, ⟨none, .ext 121 (.t 113) 0⟩, ⟨none, .ext 122 (.t 113) 1⟩, ⟨none, .mv 18 (.t 121)⟩, ⟨none, .mv 19 (.t 122)⟩]) ((.seq ((.seq (.reg false [⟨none, .mv 123 (.t 18)⟩, ⟨none, .mv 124 (.t 8)⟩, ⟨none, .call (some 125) 22 [(.t 123), (.t 124)]⟩, ⟨none, .un 126 .not (.t 125)⟩, ⟨none, .mv 127 (.t 126)⟩, ⟨some (127, false), .mv 128 (.t 19)⟩, ⟨some (127, false), .mv 129 (.t 9)⟩, ⟨some (127, false), .bin 130 .neq (.t 128) (.t 129)⟩, ⟨none, .pick 131 (.t 127) (.c (.sc (.bool true))) (.t 130)⟩]) (.cond (.t 131) ((.seq (.reg false [⟨none, .mv 6 (.c (.sc (.bool false)))⟩]) (.ret))) (.skip)))) ((.seq (.reg false [⟨none, .mv 17 (.c (.sc (.int .i64 1)))⟩]) ((.seq (.reg false [⟨none, .mv 132 (.t 13)⟩, ⟨none, .mv 133 (.t 17)⟩, ⟨none, .call (some 134) 28 [(.t 132), (.t 133)]⟩, ⟨none, .mv 17 (.t 134)⟩]) ((.seq ((.seq (.reg false [⟨none, .mv 135 (.t 17)⟩, ⟨none, .bin 136 .lss (.t 135) (.c (.sc (.int .i64 0)))⟩]) (.cond (.t 136) ((.seq (.reg false [⟨none, .mv 6 (.c (.sc (.bool false)))⟩]) (.ret))) (.skip)))) ((.seq ((.seq (.reg false [⟨none, .mv 137 (.t 17)⟩, ⟨none, .mv 138 (.t 16)⟩, ⟨none, .bin 139 .neq (.t 137) (.t 138)⟩]) (.cond (.t 139) ((.seq (.reg false [⟨none, .mv 6 (.c (.sc (.bool false)))⟩]) (.ret))) (.skip)))) ((.seq (.reg false [⟨none, .mv 6 (.c (.sc (.bool true)))⟩]) (.ret))))))))))))))))))))))))))))))))))))))))))))))))))))))))))))))))))))
theorem res4 : resF Try.prog 4 = some (140, rc4, [.t 6]) := by kernel_rfl
theorem res127 : resF Try.prog 127 = some (12, cSzP, [.t 4]) := by kernel_rfl
noncomputable def famBoolS : Fam Try.prog (eS 1 eB) 169 172 182 := famP mixed encB noB ⟨rfl, rfl, rfl⟩ (by omega) res169 res172 (eqL fun x y => x == y) (fun _ => eqL_refl fun _ _ => by simp) fun a b => af_eqB mixed res182 a b
theorem famBoolS_t (x) : famBoolS.t x = (some false, x.2) := rfl
noncomputable def famBoolSS : Fam Try.prog (eS 1 (eS 1 eB)) 85 90 100 := famC mixed famBoolS (encS eB 1) ⟨rfl, rfl, rfl⟩ (by omega) res85 res90 res100
theorem famBoolSS_t (x) : famBoolSS.t x = (some false, x.2.map famBoolS.t) := rfl
noncomputable def famBoolSSS : Fam Try.prog (eS 1 (eS 1 (eS 1 eB))) 86 91 101 := famC mixed famBoolSS (encS (eS 1 eB) 1) ⟨rfl, rfl, rfl⟩ (by omega) res86 res91 res101
theorem famBoolSSS_t (x) : famBoolSSS.t x = (some false, x.2.map famBoolSS.t) := rfl
noncomputable def szModel (m : Mo) : Int → Int := fun l => nx (famBoolSS.s m.2.2.1 l) (fun l => nx (famBoolSSS.s m.2.2.2 l) (fun l => l))
def fitModel (m : Mo) : Prop := famBoolSS.fit m.2.2.1 ∧ famBoolSSS.fit m.2.2.2
noncomputable def tModel (m : Mo) : Mo := (m.1, m.2.1, famBoolSS.t m.2.2.1, famBoolSSS.t m.2.2.2)
noncomputable def qModel (a b : Mo) : Bool := (qG a.1 b.1 && ((a.2.1 == b.2.1) && (famBoolSS.q a.2.2.1 b.2.2.1 && famBoolSSS.q a.2.2.2 b.2.2.2)))
theorem szModel_in (m : Mo) (l : Int) (h1 : 0 ≤ l) (h2 : l ≤ 1048576) : -1 ≤ szModel m l ∧ szModel m l ≤ l := by
  refine in_tr (Int.le_refl l) (nx_in (famBoolSS.s_in m.2.2.1 l h1 (by omega)) h1 (by omega) fun y0 a0 b0 => ?_)
  refine in_tr b0 (nx_in (famBoolSSS.s_in m.2.2.2 y0 a0 (by omega)) a0 (by omega) fun y1 a1 b1 => ?_)
  exact ⟨by omega, b1⟩
theorem szModel_fit (m : Mo) (l : Int) (h2 : l ≤ 1048576) (h1 : 0 ≤ l) (h : 0 ≤ szModel m l) : fitModel m := by
  obtain ⟨p0, h⟩ := nx_fit h
  have e0 := famBoolSS.s_fit m.2.2.1 l (by omega) h1 p0
  have b0 := famBoolSS.s_in m.2.2.1 l h1 (by omega)
  obtain ⟨p1, h⟩ := nx_fit h
  have e1 := famBoolSSS.s_fit m.2.2.2 _ (by omega) p0 p1
  have b1 := famBoolSSS.s_in m.2.2.2 (famBoolSS.s m.2.2.1 l) p0 (by omega)
  exact ⟨e0, e1⟩
theorem af15 (m : Mo) (l : Int) (h1 : 0 ≤ l) (h2 : l ≤ 1048576) : AF Try.prog 15 [eM m, eI l] (.own (eI (szModel m l))) := by
  refine af_of_res res15 mixed rfl fun _ => ?_
  simp +contextual -implicitDefEqProofs only [rc15, eM, eG, eS, go_sem, eI, eB, ↓reduceIte, Nat.reduceEqDiff, Nat.reduceAdd, Nat.reduceLeDiff, Nat.reduceMul, Nat.reduceBEq, Nat.reduceBneDiff, Nat.reduceLT, Nat.reduceSub, Bool.false_eq_true, List.cons_append, List.nil_append]
  refine callQ_self ?_ (famBoolSS.afS m.2.2.1 l (by omega) (by omega)) ?_
  · first | exact rfl | (simp only [eE_eta]; exact rfl)
  simp +contextual -implicitDefEqProofs only [eM, eG, eS, go_sem, eI, eB, ↓reduceIte, Nat.reduceEqDiff, Nat.reduceAdd, Nat.reduceLeDiff, Nat.reduceMul, Nat.reduceBEq, Nat.reduceBneDiff, Nat.reduceLT, Nat.reduceSub, Bool.false_eq_true, List.cons_append, List.nil_append]
  have b0 := famBoolSS.s_in m.2.2.1 l (by omega) (by omega)
  refine ⟨fun h => D.Le.sc_eq (by simp only [szModel]; rw [nx_neg h]), fun g0 => ?_⟩
  refine callQ_self ?_ (famBoolSSS.afS m.2.2.2 (famBoolSS.s m.2.2.1 l) (by omega) (by omega)) ?_
  · first | exact rfl | (simp only [eE_eta]; exact rfl)
  simp +contextual -implicitDefEqProofs only [eM, eG, eS, go_sem, eI, eB, ↓reduceIte, Nat.reduceEqDiff, Nat.reduceAdd, Nat.reduceLeDiff, Nat.reduceMul, Nat.reduceBEq, Nat.reduceBneDiff, Nat.reduceLT, Nat.reduceSub, Bool.false_eq_true, List.cons_append, List.nil_append]
  have b1 := famBoolSSS.s_in m.2.2.2 (famBoolSS.s m.2.2.1 l) (by omega) (by omega)
  refine ⟨fun h => D.Le.sc_eq (by simp only [szModel]; rw [nx_pos g0, nx_neg h]), fun g1 => ?_⟩
  exact D.Le.sc_eq (by simp only [szModel]; rw [nx_pos g0, nx_pos g1])
theorem af18 (m : Mo) (h : fitModel m) : AF Try.prog 18 [eM m] (.own (eM (tModel m))) := by
  refine af_of_res res18 mixed rfl fun _ => ?_
  simp +contextual -implicitDefEqProofs only [rc18, eM, eG, eS, tModel, famBoolSS_t, famBoolSSS_t, go_sem, eI, eB, ↓reduceIte, Nat.reduceEqDiff, Nat.reduceAdd, Nat.reduceLeDiff, Nat.reduceMul, Nat.reduceBEq, Nat.reduceBneDiff, Nat.reduceLT, Nat.reduceSub, Bool.false_eq_true, List.cons_append, List.nil_append]
  refine callQ_self ?_ (af50 m.1) ?_
  · first | exact rfl | (simp only [eE_eta]; exact rfl)
  simp +contextual -implicitDefEqProofs only [eM, eG, eS, tModel, famBoolSS_t, famBoolSSS_t, go_sem, eI, eB, ↓reduceIte, Nat.reduceEqDiff, Nat.reduceAdd, Nat.reduceLeDiff, Nat.reduceMul, Nat.reduceBEq, Nat.reduceBneDiff, Nat.reduceLT, Nat.reduceSub, Bool.false_eq_true, List.cons_append, List.nil_append]
  refine callQ_self ?_ (famBoolSS.afT m.2.2.1 h.1) ?_
  · first | exact rfl | (simp only [eE_eta]; exact rfl)
  simp +contextual -implicitDefEqProofs only [eM, eG, eS, tModel, famBoolSS_t, famBoolSSS_t, go_sem, eI, eB, ↓reduceIte, Nat.reduceEqDiff, Nat.reduceAdd, Nat.reduceLeDiff, Nat.reduceMul, Nat.reduceBEq, Nat.reduceBneDiff, Nat.reduceLT, Nat.reduceSub, Bool.false_eq_true, List.cons_append, List.nil_append]
  refine callQ_self ?_ (famBoolSSS.afT m.2.2.2 h.2) ?_
  · first | exact rfl | (simp only [eE_eta]; exact rfl)
  simp +contextual -implicitDefEqProofs only [eM, eG, eS, tModel, famBoolSS_t, famBoolSSS_t, go_sem, eI, eB, ↓reduceIte, Nat.reduceEqDiff, Nat.reduceAdd, Nat.reduceLeDiff, Nat.reduceMul, Nat.reduceBEq, Nat.reduceBneDiff, Nat.reduceLT, Nat.reduceSub, Bool.false_eq_true, List.cons_append, List.nil_append]
theorem af23 (a b : Mo) : AF Try.prog 23 [eM a, eM b] (.own (eB (qModel a b))) := by
  refine af_of_res res23 mixed rfl fun _ => ?_
  simp +contextual -implicitDefEqProofs only [rc23, qModel, bne, Bool.not_true, Bool.not_false, Bool.true_and, Bool.false_and, Bool.and_true, Bool.and_false, eM, eG, eS, go_sem, eI, eB, ↓reduceIte, Nat.reduceEqDiff, Nat.reduceAdd, Nat.reduceLeDiff, Nat.reduceMul, Nat.reduceBEq, Nat.reduceBneDiff, Nat.reduceLT, Nat.reduceSub, Bool.false_eq_true, List.cons_append, List.nil_append]
  refine callQ_self ?_ (af99 a.1 b.1) ?_
  · first | exact rfl | (simp only [eE_eta]; exact rfl)
  cases e0 : qG a.1 b.1
  · simp +contextual -implicitDefEqProofs only [qModel, bne, Bool.not_true, Bool.not_false, Bool.true_and, Bool.false_and, Bool.and_true, Bool.and_false, eM, eG, eS, e0, go_sem, eI, eB, ↓reduceIte, Nat.reduceEqDiff, Nat.reduceAdd, Nat.reduceLeDiff, Nat.reduceMul, Nat.reduceBEq, Nat.reduceBneDiff, Nat.reduceLT, Nat.reduceSub, Bool.false_eq_true, List.cons_append, List.nil_append]
  cases e1 : (a.2.1 == b.2.1)
  · simp +contextual -implicitDefEqProofs only [qModel, bne, Bool.not_true, Bool.not_false, Bool.true_and, Bool.false_and, Bool.and_true, Bool.and_false, eM, eG, eS, e0, e1, go_sem, eI, eB, ↓reduceIte, Nat.reduceEqDiff, Nat.reduceAdd, Nat.reduceLeDiff, Nat.reduceMul, Nat.reduceBEq, Nat.reduceBneDiff, Nat.reduceLT, Nat.reduceSub, Bool.false_eq_true, List.cons_append, List.nil_append]
  simp +contextual -implicitDefEqProofs only [qModel, bne, Bool.not_true, Bool.not_false, Bool.true_and, Bool.false_and, Bool.and_true, Bool.and_false, eM, eG, eS, e0, e1, go_sem, eI, eB, ↓reduceIte, Nat.reduceEqDiff, Nat.reduceAdd, Nat.reduceLeDiff, Nat.reduceMul, Nat.reduceBEq, Nat.reduceBneDiff, Nat.reduceLT, Nat.reduceSub, Bool.false_eq_true, List.cons_append, List.nil_append]
  refine callQ_self ?_ (famBoolSS.afQ a.2.2.1 b.2.2.1) ?_
  · first | exact rfl | (simp only [eE_eta]; exact rfl)
  cases e2 : famBoolSS.q a.2.2.1 b.2.2.1
  · simp +contextual -implicitDefEqProofs only [qModel, bne, Bool.not_true, Bool.not_false, Bool.true_and, Bool.false_and, Bool.and_true, Bool.and_false, eM, eG, eS, e0, e1, e2, go_sem, eI, eB, ↓reduceIte, Nat.reduceEqDiff, Nat.reduceAdd, Nat.reduceLeDiff, Nat.reduceMul, Nat.reduceBEq, Nat.reduceBneDiff, Nat.reduceLT, Nat.reduceSub, Bool.false_eq_true, List.cons_append, List.nil_append]
  simp +contextual -implicitDefEqProofs only [qModel, bne, Bool.not_true, Bool.not_false, Bool.true_and, Bool.false_and, Bool.and_true, Bool.and_false, eM, eG, eS, e0, e1, e2, go_sem, eI, eB, ↓reduceIte, Nat.reduceEqDiff, Nat.reduceAdd, Nat.reduceLeDiff, Nat.reduceMul, Nat.reduceBEq, Nat.reduceBneDiff, Nat.reduceLT, Nat.reduceSub, Bool.false_eq_true, List.cons_append, List.nil_append]
  refine callQ_self ?_ (famBoolSSS.afQ a.2.2.2 b.2.2.2) ?_
  · first | exact rfl | (simp only [eE_eta]; exact rfl)
  cases e3 : famBoolSSS.q a.2.2.2 b.2.2.2
  · simp +contextual -implicitDefEqProofs only [qModel, bne, Bool.not_true, Bool.not_false, Bool.true_and, Bool.false_and, Bool.and_true, Bool.and_false, eM, eG, eS, e0, e1, e2, e3, go_sem, eI, eB, ↓reduceIte, Nat.reduceEqDiff, Nat.reduceAdd, Nat.reduceLeDiff, Nat.reduceMul, Nat.reduceBEq, Nat.reduceBneDiff, Nat.reduceLT, Nat.reduceSub, Bool.false_eq_true, List.cons_append, List.nil_append]
  · simp +contextual -implicitDefEqProofs only [qModel, bne, Bool.not_true, Bool.not_false, Bool.true_and, Bool.false_and, Bool.and_true, Bool.and_false, eM, eG, eS, e0, e1, e2, e3, go_sem, eI, eB, ↓reduceIte, Nat.reduceEqDiff, Nat.reduceAdd, Nat.reduceLeDiff, Nat.reduceMul, Nat.reduceBEq, Nat.reduceBneDiff, Nat.reduceLT, Nat.reduceSub, Bool.false_eq_true, List.cons_append, List.nil_append]
theorem qModel_refl (m : Mo) : qModel m m = true := by simp [qModel, qG, famBoolSS.q_refl, famBoolSSS.q_refl]
noncomputable def famModel : Fam Try.prog eM 15 18 23 := ⟨szModel, tModel, qModel, fitModel, szModel_in, szModel_fit, qModel_refl, af15, af18, af23⟩
theorem famModel_t (x) : famModel.t x = tModel x := rfl
noncomputable def famExpr : Fam Try.prog eE 16 19 24 := famE mixed res16 res87 res19 res92 res24 res102
theorem famExpr_t (x) : famExpr.t x = tE x := rfl
noncomputable def famInt64S : Fam Try.prog (eS 1 eI) 127 20 22 := famP mixed encI noI ⟨rfl, rfl, rfl⟩ (by omega) res127 res20 (eqL fun x y => x == y) (fun _ => eqL_refl fun _ _ => by simp) fun a b => af_eqS mixed res22 a b
theorem famInt64S_t (x) : famInt64S.t x = (some false, x.2) := rfl
noncomputable def hfInt64S : HFam Try.prog (eS 1 eI) famInt64S.s famInt64S.t 27 28 := hfI mixed (fun _ _ => rfl) (fun _ => rfl) res27 res28
noncomputable def hfBoolS : MFam Try.prog (eS 1 eB) famBoolS.s famBoolS.t 183 := mfB (fun _ _ => rfl) (fun _ => rfl) res183
noncomputable def hfBoolSS : MFam Try.prog (eS 1 (eS 1 eB)) famBoolSS.s famBoolSS.t 103 := mfC famBoolS (encS eB 1) hfBoolS (fun _ => rfl) res103
noncomputable def hfBoolSSS : MFam Try.prog (eS 1 (eS 1 (eS 1 eB))) famBoolSSS.s famBoolSSS.t 104 := mfC famBoolSS (encS (eS 1 eB) 1) hfBoolSS (fun _ => rfl) res104
noncomputable def mrkModel (m : Mo) (k : Int) : Mo := (m.1, m.2.1, hfBoolSS.mrk m.2.2.1 k, hfBoolSSS.mrk m.2.2.2 (k + hfBoolSS.cnt m.2.2.1))
noncomputable def cntModel (m : Mo) : Nat := hfBoolSS.cnt m.2.2.1 + hfBoolSSS.cnt m.2.2.2
theorem mk_Model (m : Mo) (k : Int) (h0 : 0 ≤ k) (h1 : k + cntModel m ≤ maxK) : AFM Try.prog 25 (eM m) k (eM (mrkModel m k)) (k + cntModel m) := by
  unfold cntModel at h1 ⊢
  refine afm_ag res25 (by omega) rfl fun hbd => ?_
  simp +contextual -implicitDefEqProofs only [rc25, eM, eG, eS, eI, D.at, D.sub, D.put, D.cells, D.size, D.sizeL, D.isAg, go_sem, eB, ↓reduceIte, Nat.reduceEqDiff, Nat.reduceAdd, Nat.reduceLeDiff, Nat.reduceMul, Nat.reduceBEq, Nat.reduceBneDiff, Nat.reduceLT, Nat.reduceSub, Bool.false_eq_true, List.cons_append, List.nil_append, Int.ofNat_lt, List.length_map, Int.natCast_nonneg]
  refine mMcl_self (e' := eS 1 (eS 1 eB) (hfBoolSS.mrk m.2.2.1 k)) (n' := k + hfBoolSS.cnt m.2.2.1) ?_ rfl (.inr rfl) ?_
  · exact hfBoolSS.afM m.2.2.1 k (by omega) (by omega)
  simp +contextual -implicitDefEqProofs only [eM, eG, eS, eI, D.at, D.sub, D.put, D.cells, D.size, D.sizeL, D.isAg, mrkModel, go_sem, eB, ↓reduceIte, Nat.reduceEqDiff, Nat.reduceAdd, Nat.reduceLeDiff, Nat.reduceMul, Nat.reduceBEq, Nat.reduceBneDiff, Nat.reduceLT, Nat.reduceSub, Bool.false_eq_true, List.cons_append, List.nil_append, Int.ofNat_lt, List.length_map, Int.natCast_nonneg]
  refine mMcl_self (e' := eS 1 (eS 1 (eS 1 eB)) (hfBoolSSS.mrk m.2.2.2 (k + hfBoolSS.cnt m.2.2.1))) (n' := k + hfBoolSS.cnt m.2.2.1 + hfBoolSSS.cnt m.2.2.2) ?_ rfl (.inr rfl) ?_
  · exact hfBoolSSS.afM m.2.2.2 (k + hfBoolSS.cnt m.2.2.1) (by omega) (by omega)
  simp +contextual -implicitDefEqProofs only [eM, eG, eS, eI, D.at, D.sub, D.put, D.cells, D.size, D.sizeL, D.isAg, mrkModel, go_sem, eB, ↓reduceIte, Nat.reduceEqDiff, Nat.reduceAdd, Nat.reduceLeDiff, Nat.reduceMul, Nat.reduceBEq, Nat.reduceBneDiff, Nat.reduceLT, Nat.reduceSub, Bool.false_eq_true, List.cons_append, List.nil_append, Int.ofNat_lt, List.length_map, Int.natCast_nonneg]
  try simp only [Int.natCast_add, Int.add_assoc]
  try trivial
noncomputable def hfModel : MFam Try.prog eM szModel tModel 25 where
  mrk := mrkModel
  cnt := cntModel
  cnt_s m l h1 h2 h := by
    unfold szModel at h ⊢
    unfold cntModel
    obtain ⟨p0, h⟩ := nx_fit h
    rw [nx_pos (by omega)]
    have b0 := famBoolSS.s_in m.2.2.1 l (by omega) (by omega)
    have c0 := hfBoolSS.cnt_s m.2.2.1 l (by omega) (by omega) p0
    obtain ⟨p1, h⟩ := nx_fit h
    rw [nx_pos (by omega)]
    have b1 := famBoolSSS.s_in m.2.2.2 (famBoolSS.s m.2.2.1 l) (by omega) (by omega)
    have c1 := hfBoolSSS.cnt_s m.2.2.2 (famBoolSS.s m.2.2.1 l) (by omega) (by omega) p1
    push_cast
    omega
  cnt_t m := by unfold cntModel tModel; simp only [hfBoolSS.cnt_t, hfBoolSSS.cnt_t]
  afM := mk_Model

noncomputable def hfExpr : MFam Try.prog eE famExpr.s famExpr.t 26 := mfE af26 (fun _ _ => rfl) (fun _ => rfl)
theorem safS_two (m : Mo) (e : Ex) (s : List Int) : ∃ n1 n2 l c, safS (some false) m e s = ((n1, l), c) ∧ safS (some true) m e s = ((n2, l), c) := by
  unfold safS setS
  split
  · exact ⟨_, _, _, _, rfl, rfl⟩
  · exact ⟨_, _, _, _, rfl, rfl⟩
theorem safS_cnt (z : Option Bool) (m : Mo) (e : Ex) (s : List Int) : hfInt64S.cnt (safS z m e s).1 ≤ 1000000 := by
  unfold safS setS
  split
  · next h =>
    rcases askR_cases (m := m) (e := e) (s := s) with h1 | h1 | ⟨_, h1, _⟩
    · rw [h] at h1; cases h1
    · rw [h] at h1; cases h1
    · obtain ⟨n, hM⟩ := okMo_ok h1
      have n8 := hM.n8
      have hn : m.2.1.toNat = n := by rw [hM.pts]; rfl
      rw [hn]
      exact Nat.le_trans imL_len (by omega)
  · exact Nat.zero_le _
theorem law (m : Mo) (e : Ex) (s : SL Int) : AF Try.prog 4 [eM m, eE e, eS 1 eI s] (.own (eB true)) := by
  obtain ⟨nn, xs⟩ := s
  rw [eE_eta e]
  refine af_of_res res4 mixed rfl fun hbd => ?_
  simp +contextual -implicitDefEqProofs only [rc4, eM, eG, eS, eI, eB, famModel_t, tModel, famBoolSS_t, famBoolSSS_t, famExpr_t, eE_eta, tE_k, tE_n, tE_nn, tE_ks, bne_self_eq_false, go_sem, ↓reduceIte, Nat.reduceEqDiff, Nat.reduceAdd, Nat.reduceLeDiff, Nat.reduceMul, Nat.reduceBEq, Nat.reduceBneDiff, Nat.reduceLT, Nat.reduceSub, Bool.false_eq_true, List.cons_append, List.nil_append]
  refine fun hpl => ?_
  refine callQ_self (ds := [eM m, eI 1048576]) ?_ (famModel.afS m 1048576 (by omega) (by omega)) ?_
  · simp only [eM, eG, eS, eI, eB, famModel_t, tModel, famBoolSS_t, famBoolSSS_t, famExpr_t, eE_eta, tE_k, tE_n, tE_nn, tE_ks, bne_self_eq_false]; exact rfl
  simp +contextual -implicitDefEqProofs only [eM, eG, eS, eI, eB, famModel_t, tModel, famBoolSS_t, famBoolSSS_t, famExpr_t, eE_eta, tE_k, tE_n, tE_nn, tE_ks, bne_self_eq_false, go_sem, ↓reduceIte, Nat.reduceEqDiff, Nat.reduceAdd, Nat.reduceLeDiff, Nat.reduceMul, Nat.reduceBEq, Nat.reduceBneDiff, Nat.reduceLT, Nat.reduceSub, Bool.false_eq_true, List.cons_append, List.nil_append]
  have sb0 := famModel.s_in m 1048576 (by omega) (by omega)
  refine fun hs0 => ?_
  have hf0 := famModel.s_fit m 1048576 (by omega) (by omega) (by omega)
  refine callQ_self (ds := [eE e, eI (famModel.s m 1048576)]) ?_ (famExpr.afS e (famModel.s m 1048576) (by omega) (by omega)) ?_
  · simp only [eM, eG, eS, eI, eB, famModel_t, tModel, famBoolSS_t, famBoolSSS_t, famExpr_t, eE_eta, tE_k, tE_n, tE_nn, tE_ks, bne_self_eq_false]; exact rfl
  simp +contextual -implicitDefEqProofs only [eM, eG, eS, eI, eB, famModel_t, tModel, famBoolSS_t, famBoolSSS_t, famExpr_t, eE_eta, tE_k, tE_n, tE_nn, tE_ks, bne_self_eq_false, go_sem, ↓reduceIte, Nat.reduceEqDiff, Nat.reduceAdd, Nat.reduceLeDiff, Nat.reduceMul, Nat.reduceBEq, Nat.reduceBneDiff, Nat.reduceLT, Nat.reduceSub, Bool.false_eq_true, List.cons_append, List.nil_append]
  have sb1 := famExpr.s_in e (famModel.s m 1048576) (by omega) (by omega)
  refine fun hs1 => ?_
  have hf1 := famExpr.s_fit e (famModel.s m 1048576) (by omega) (by omega) (by omega)
  refine callQ_self (ds := [eM m]) ?_ (famModel.afT m hf0) ?_
  · simp only [eM, eG, eS, eI, eB, famModel_t, tModel, famBoolSS_t, famBoolSSS_t, famExpr_t, eE_eta, tE_k, tE_n, tE_nn, tE_ks, bne_self_eq_false]; exact rfl
  simp +contextual -implicitDefEqProofs only [eM, eG, eS, eI, eB, famModel_t, tModel, famBoolSS_t, famBoolSSS_t, famExpr_t, eE_eta, tE_k, tE_n, tE_nn, tE_ks, bne_self_eq_false, go_sem, ↓reduceIte, Nat.reduceEqDiff, Nat.reduceAdd, Nat.reduceLeDiff, Nat.reduceMul, Nat.reduceBEq, Nat.reduceBneDiff, Nat.reduceLT, Nat.reduceSub, Bool.false_eq_true, List.cons_append, List.nil_append]
  refine callQ_self (ds := [eE e]) ?_ (famExpr.afT e hf1) ?_
  · simp only [eM, eG, eS, eI, eB, famModel_t, tModel, famBoolSS_t, famBoolSSS_t, famExpr_t, eE_eta, tE_k, tE_n, tE_nn, tE_ks, bne_self_eq_false]; exact rfl
  simp +contextual -implicitDefEqProofs only [eM, eG, eS, eI, eB, famModel_t, tModel, famBoolSS_t, famBoolSSS_t, famExpr_t, eE_eta, tE_k, tE_n, tE_nn, tE_ks, bne_self_eq_false, go_sem, ↓reduceIte, Nat.reduceEqDiff, Nat.reduceAdd, Nat.reduceLeDiff, Nat.reduceMul, Nat.reduceBEq, Nat.reduceBneDiff, Nat.reduceLT, Nat.reduceSub, Bool.false_eq_true, List.cons_append, List.nil_append]
  refine callQ_self (ds := [eS 1 eI (nn, xs)]) ?_ (af_toS mixed encI noI ⟨rfl, rfl, rfl⟩ res20 (nn, xs) ⟨by show 8 * xs.length ≤ _; omega, by show xs.length ≤ _; omega⟩) ?_
  · simp only [eM, eG, eS, eI, eB, famModel_t, tModel, famBoolSS_t, famBoolSSS_t, famExpr_t, eE_eta, tE_k, tE_n, tE_nn, tE_ks, bne_self_eq_false]; exact rfl
  simp +contextual -implicitDefEqProofs only [eM, eG, eS, eI, eB, famModel_t, tModel, famBoolSS_t, famBoolSSS_t, famExpr_t, eE_eta, tE_k, tE_n, tE_nn, tE_ks, bne_self_eq_false, go_sem, ↓reduceIte, Nat.reduceEqDiff, Nat.reduceAdd, Nat.reduceLeDiff, Nat.reduceMul, Nat.reduceBEq, Nat.reduceBneDiff, Nat.reduceLT, Nat.reduceSub, Bool.false_eq_true, List.cons_append, List.nil_append]
  have hsp := af29 (famModel.t m) (famExpr.t e) (some false, xs)
  have him := af30 (famModel.t m) (famExpr.t e) (some false, xs)
  have hqI := af_eqS mixed res22 (some false, xs) (some false, xs)
  rw [eqL_refl (fun _ _ => by simp)] at hqI
  have hqM := famModel.afQ (famModel.t m) (famModel.t m)
  rw [famModel.q_refl] at hqM
  have hqE := famExpr.afQ (famExpr.t e) (famExpr.t e)
  rw [famExpr.q_refl] at hqE
  have hc0 : (hfModel.cnt (famModel.t m) : Int) ≤ 8388608 := by
    have h := hfModel.cnt_s m 1048576 (by omega) (by omega) (Int.not_lt.1 hs0)
    have e : hfModel.cnt (famModel.t m) = hfModel.cnt m := hfModel.cnt_t m
    have h' : 0 ≤ szModel m 1048576 := Int.not_lt.1 hs0
    rw [e]; omega
  have hcE : (hfExpr.cnt (famExpr.t e) : Int) ≤ 8388608 := by
    have h := hfExpr.cnt_s e (famModel.s m 1048576) (by omega) (by omega) (Int.not_lt.1 hs1)
    have e : hfExpr.cnt (famExpr.t e) = hfExpr.cnt e := hfExpr.cnt_t e
    rw [e]; omega
  have hc1 := safS_cnt (some true) (famModel.t m) (famExpr.t e) xs
  obtain ⟨n1, n2, l, c, e1, e2⟩ := safS_two (famModel.t m) (famExpr.t e) xs
  simp only at hsp him hc1
  rw [e1] at hsp
  rw [e2] at him hc1
  simp only at hsp him hc1
  have hqR := famInt64S.afQ (n2, l) (n1, l)
  rw [show famInt64S.q (n2, l) (n1, l) = true from famInt64S.q_refl (n2, l)] at hqR
  have hM0 := hfModel.afM (famModel.t m) 1 (by omega) (by unfold maxK; omega)
  generalize hfModel.cnt (famModel.t m) = cT at hM0 hc0
  generalize hfModel.mrk (famModel.t m) 1 = mT at hM0
  have hME := hfExpr.afM (famExpr.t e) (1 + cT) (by omega) (by unfold maxK; omega)
  generalize hfExpr.cnt (famExpr.t e) = cE at hME hcE
  generalize hfExpr.mrk (famExpr.t e) (1 + cT) = mE at hME
  obtain ⟨xk, xv, xn, xks, rfl⟩ := Ex.ex mE
  rw [eE_eta (famExpr.t e), eE_mk] at hME
  simp only [famExpr_t, tE_k, tE_n, tE_nn, tE_ks] at hME
  have hmI := hfInt64S.afM (some false, xs) (1 + cT + cE) (by omega) (by show _ + ((xs.length : Nat) : Int) ≤ _; unfold maxK; omega)
  rw [show hfInt64S.cnt (some false, xs) = xs.length from rfl] at hmI
  generalize hfInt64S.mrk (some false, xs) (1 + cT + cE) = mS at hmI
  have hM1 := hfInt64S.afM (n2, l) 1 (by omega) (by unfold maxK; omega)
  have hH1 := hfInt64S.afH (n2, l) 1 (by omega) (by unfold maxK; omega)
  generalize hfInt64S.cnt (n2, l) = cR at hM1 hH1 hc1
  generalize hfInt64S.mrk (n2, l) 1 = mR at hM1 hH1
  have hk0 : ¬ (1 + (cT : Int) + (cE : Int) + (xs.length : Int) < 0) := by omega
  have hk1 : ¬ (1 + (cR : Int) < 0) := by omega
  refine callQ_self (ds := [eM (famModel.t m), eE (famExpr.t e), eS 1 eI (some false, xs)]) ?_ (hsp) ?_
  · simp only [eM, eG, eS, eI, eB, famModel_t, tModel, famBoolSS_t, famBoolSSS_t, famExpr_t, eE_eta, tE_k, tE_n, tE_nn, tE_ks, bne_self_eq_false]; exact rfl
  simp +contextual -implicitDefEqProofs only [eM, eG, eS, eI, eB, famModel_t, tModel, famBoolSS_t, famBoolSSS_t, famExpr_t, eE_eta, tE_k, tE_n, tE_nn, tE_ks, bne_self_eq_false, go_sem, ↓reduceIte, Nat.reduceEqDiff, Nat.reduceAdd, Nat.reduceLeDiff, Nat.reduceMul, Nat.reduceBEq, Nat.reduceBneDiff, Nat.reduceLT, Nat.reduceSub, Bool.false_eq_true, List.cons_append, List.nil_append]
  refine callQ_self (ds := [eM m]) ?_ (famModel.afT m hf0) ?_
  · simp only [eM, eG, eS, eI, eB, famModel_t, tModel, famBoolSS_t, famBoolSSS_t, famExpr_t, eE_eta, tE_k, tE_n, tE_nn, tE_ks, bne_self_eq_false]; exact rfl
  simp +contextual -implicitDefEqProofs only [eM, eG, eS, eI, eB, famModel_t, tModel, famBoolSS_t, famBoolSSS_t, famExpr_t, eE_eta, tE_k, tE_n, tE_nn, tE_ks, bne_self_eq_false, go_sem, ↓reduceIte, Nat.reduceEqDiff, Nat.reduceAdd, Nat.reduceLeDiff, Nat.reduceMul, Nat.reduceBEq, Nat.reduceBneDiff, Nat.reduceLT, Nat.reduceSub, Bool.false_eq_true, List.cons_append, List.nil_append]
  refine callQ_self (ds := [eE e]) ?_ (famExpr.afT e hf1) ?_
  · simp only [eM, eG, eS, eI, eB, famModel_t, tModel, famBoolSS_t, famBoolSSS_t, famExpr_t, eE_eta, tE_k, tE_n, tE_nn, tE_ks, bne_self_eq_false]; exact rfl
  simp +contextual -implicitDefEqProofs only [eM, eG, eS, eI, eB, famModel_t, tModel, famBoolSS_t, famBoolSSS_t, famExpr_t, eE_eta, tE_k, tE_n, tE_nn, tE_ks, bne_self_eq_false, go_sem, ↓reduceIte, Nat.reduceEqDiff, Nat.reduceAdd, Nat.reduceLeDiff, Nat.reduceMul, Nat.reduceBEq, Nat.reduceBneDiff, Nat.reduceLT, Nat.reduceSub, Bool.false_eq_true, List.cons_append, List.nil_append]
  refine callQ_self (ds := [eS 1 eI (nn, xs)]) ?_ (af_toS mixed encI noI ⟨rfl, rfl, rfl⟩ res20 (nn, xs) ⟨by show 8 * xs.length ≤ _; omega, by show xs.length ≤ _; omega⟩) ?_
  · simp only [eM, eG, eS, eI, eB, famModel_t, tModel, famBoolSS_t, famBoolSSS_t, famExpr_t, eE_eta, tE_k, tE_n, tE_nn, tE_ks, bne_self_eq_false]; exact rfl
  simp +contextual -implicitDefEqProofs only [eM, eG, eS, eI, eB, famModel_t, tModel, famBoolSS_t, famBoolSSS_t, famExpr_t, eE_eta, tE_k, tE_n, tE_nn, tE_ks, bne_self_eq_false, go_sem, ↓reduceIte, Nat.reduceEqDiff, Nat.reduceAdd, Nat.reduceLeDiff, Nat.reduceMul, Nat.reduceBEq, Nat.reduceBneDiff, Nat.reduceLT, Nat.reduceSub, Bool.false_eq_true, List.cons_append, List.nil_append]
  refine callQ_self (ds := [eM (famModel.t m), eE (famExpr.t e), eS 1 eI (some false, xs)]) ?_ (him) ?_
  · simp only [eM, eG, eS, eI, eB, famModel_t, tModel, famBoolSS_t, famBoolSSS_t, famExpr_t, eE_eta, tE_k, tE_n, tE_nn, tE_ks, bne_self_eq_false]; exact rfl
  simp +contextual -implicitDefEqProofs only [eM, eG, eS, eI, eB, famModel_t, tModel, famBoolSS_t, famBoolSSS_t, famExpr_t, eE_eta, tE_k, tE_n, tE_nn, tE_ks, bne_self_eq_false, go_sem, ↓reduceIte, Nat.reduceEqDiff, Nat.reduceAdd, Nat.reduceLeDiff, Nat.reduceMul, Nat.reduceBEq, Nat.reduceBneDiff, Nat.reduceLT, Nat.reduceSub, Bool.false_eq_true, List.cons_append, List.nil_append]
  refine callQ_self (ds := [eS 1 eI (n2, l), eS 1 eI (n1, l)]) ?_ (hqR) ?_
  · simp only [eM, eG, eS, eI, eB, famModel_t, tModel, famBoolSS_t, famBoolSSS_t, famExpr_t, eE_eta, tE_k, tE_n, tE_nn, tE_ks, bne_self_eq_false]; exact rfl
  simp +contextual -implicitDefEqProofs only [Bool.not_true, eM, eG, eS, eI, eB, famModel_t, tModel, famBoolSS_t, famBoolSSS_t, famExpr_t, eE_eta, tE_k, tE_n, tE_nn, tE_ks, bne_self_eq_false, go_sem, ↓reduceIte, Nat.reduceEqDiff, Nat.reduceAdd, Nat.reduceLeDiff, Nat.reduceMul, Nat.reduceBEq, Nat.reduceBneDiff, Nat.reduceLT, Nat.reduceSub, Bool.false_eq_true, List.cons_append, List.nil_append]
  refine callQ_self (ds := [eM m]) ?_ (famModel.afT m hf0) ?_
  · simp only [eM, eG, eS, eI, eB, famModel_t, tModel, famBoolSS_t, famBoolSSS_t, famExpr_t, eE_eta, tE_k, tE_n, tE_nn, tE_ks, bne_self_eq_false]; exact rfl
  simp +contextual -implicitDefEqProofs only [eM, eG, eS, eI, eB, famModel_t, tModel, famBoolSS_t, famBoolSSS_t, famExpr_t, eE_eta, tE_k, tE_n, tE_nn, tE_ks, bne_self_eq_false, go_sem, ↓reduceIte, Nat.reduceEqDiff, Nat.reduceAdd, Nat.reduceLeDiff, Nat.reduceMul, Nat.reduceBEq, Nat.reduceBneDiff, Nat.reduceLT, Nat.reduceSub, Bool.false_eq_true, List.cons_append, List.nil_append]
  refine callQ_self (ds := [eM (famModel.t m), eM (famModel.t m)]) ?_ (hqM) ?_
  · simp only [eM, eG, eS, eI, eB, famModel_t, tModel, famBoolSS_t, famBoolSSS_t, famExpr_t, eE_eta, tE_k, tE_n, tE_nn, tE_ks, bne_self_eq_false]; exact rfl
  simp +contextual -implicitDefEqProofs only [Bool.not_true, eM, eG, eS, eI, eB, famModel_t, tModel, famBoolSS_t, famBoolSSS_t, famExpr_t, eE_eta, tE_k, tE_n, tE_nn, tE_ks, bne_self_eq_false, go_sem, ↓reduceIte, Nat.reduceEqDiff, Nat.reduceAdd, Nat.reduceLeDiff, Nat.reduceMul, Nat.reduceBEq, Nat.reduceBneDiff, Nat.reduceLT, Nat.reduceSub, Bool.false_eq_true, List.cons_append, List.nil_append]
  refine callQ_self (ds := [eE e]) ?_ (famExpr.afT e hf1) ?_
  · simp only [eM, eG, eS, eI, eB, famModel_t, tModel, famBoolSS_t, famBoolSSS_t, famExpr_t, eE_eta, tE_k, tE_n, tE_nn, tE_ks, bne_self_eq_false]; exact rfl
  simp +contextual -implicitDefEqProofs only [eM, eG, eS, eI, eB, famModel_t, tModel, famBoolSS_t, famBoolSSS_t, famExpr_t, eE_eta, tE_k, tE_n, tE_nn, tE_ks, bne_self_eq_false, go_sem, ↓reduceIte, Nat.reduceEqDiff, Nat.reduceAdd, Nat.reduceLeDiff, Nat.reduceMul, Nat.reduceBEq, Nat.reduceBneDiff, Nat.reduceLT, Nat.reduceSub, Bool.false_eq_true, List.cons_append, List.nil_append]
  refine callQ_self (ds := [eE (famExpr.t e), eE (famExpr.t e)]) ?_ (hqE) ?_
  · simp only [eM, eG, eS, eI, eB, famModel_t, tModel, famBoolSS_t, famBoolSSS_t, famExpr_t, eE_eta, tE_k, tE_n, tE_nn, tE_ks, bne_self_eq_false]; exact rfl
  simp +contextual -implicitDefEqProofs only [Bool.not_true, eM, eG, eS, eI, eB, famModel_t, tModel, famBoolSS_t, famBoolSSS_t, famExpr_t, eE_eta, tE_k, tE_n, tE_nn, tE_ks, bne_self_eq_false, go_sem, ↓reduceIte, Nat.reduceEqDiff, Nat.reduceAdd, Nat.reduceLeDiff, Nat.reduceMul, Nat.reduceBEq, Nat.reduceBneDiff, Nat.reduceLT, Nat.reduceSub, Bool.false_eq_true, List.cons_append, List.nil_append]
  refine callQ_self (ds := [eS 1 eI (nn, xs)]) ?_ (af_toS mixed encI noI ⟨rfl, rfl, rfl⟩ res20 (nn, xs) ⟨by show 8 * xs.length ≤ _; omega, by show xs.length ≤ _; omega⟩) ?_
  · simp only [eM, eG, eS, eI, eB, famModel_t, tModel, famBoolSS_t, famBoolSSS_t, famExpr_t, eE_eta, tE_k, tE_n, tE_nn, tE_ks, bne_self_eq_false]; exact rfl
  simp +contextual -implicitDefEqProofs only [eM, eG, eS, eI, eB, famModel_t, tModel, famBoolSS_t, famBoolSSS_t, famExpr_t, eE_eta, tE_k, tE_n, tE_nn, tE_ks, bne_self_eq_false, go_sem, ↓reduceIte, Nat.reduceEqDiff, Nat.reduceAdd, Nat.reduceLeDiff, Nat.reduceMul, Nat.reduceBEq, Nat.reduceBneDiff, Nat.reduceLT, Nat.reduceSub, Bool.false_eq_true, List.cons_append, List.nil_append]
  refine callQ_self (ds := [eS 1 eI (some false, xs), eS 1 eI (some false, xs)]) ?_ (hqI) ?_
  · simp only [eM, eG, eS, eI, eB, famModel_t, tModel, famBoolSS_t, famBoolSSS_t, famExpr_t, eE_eta, tE_k, tE_n, tE_nn, tE_ks, bne_self_eq_false]; exact rfl
  simp +contextual -implicitDefEqProofs only [Bool.not_true, eM, eG, eS, eI, eB, famModel_t, tModel, famBoolSS_t, famBoolSSS_t, famExpr_t, eE_eta, tE_k, tE_n, tE_nn, tE_ks, bne_self_eq_false, go_sem, ↓reduceIte, Nat.reduceEqDiff, Nat.reduceAdd, Nat.reduceLeDiff, Nat.reduceMul, Nat.reduceBEq, Nat.reduceBneDiff, Nat.reduceLT, Nat.reduceSub, Bool.false_eq_true, List.cons_append, List.nil_append]
  refine ⟨eM mT, 1 + cT, hM0, ⟨rfl, fun _ => rfl, rfl⟩, ?_⟩
  simp +contextual -implicitDefEqProofs only [D.put, D.cells, D.size, D.sizeL, D.isAg, D.at, D.sub, eM, eG, eS, eI, eB, famModel_t, tModel, famBoolSS_t, famBoolSSS_t, famExpr_t, eE_eta, tE_k, tE_n, tE_nn, tE_ks, bne_self_eq_false, go_sem, ↓reduceIte, Nat.reduceEqDiff, Nat.reduceAdd, Nat.reduceLeDiff, Nat.reduceMul, Nat.reduceBEq, Nat.reduceBneDiff, Nat.reduceLT, Nat.reduceSub, Bool.false_eq_true, List.cons_append, List.nil_append]
  refine ⟨.ag [.sc (.int .i64 xk), .sc (.int .i64 xv), .ls xn 3 (xks.map eE)], 1 + cT + cE, hME, ⟨rfl, fun _ => rfl, rfl⟩, ?_⟩
  simp +contextual -implicitDefEqProofs only [D.put, D.cells, D.size, D.sizeL, D.isAg, D.at, D.sub, eM, eG, eS, eI, eB, famModel_t, tModel, famBoolSS_t, famBoolSSS_t, famExpr_t, eE_eta, tE_k, tE_n, tE_nn, tE_ks, bne_self_eq_false, go_sem, ↓reduceIte, Nat.reduceEqDiff, Nat.reduceAdd, Nat.reduceLeDiff, Nat.reduceMul, Nat.reduceBEq, Nat.reduceBneDiff, Nat.reduceLT, Nat.reduceSub, Bool.false_eq_true, List.cons_append, List.nil_append]
  refine ⟨eS 1 eI mS, 1 + cT + cE + xs.length, hmI, rfl, ?_⟩
  simp +contextual -implicitDefEqProofs only [hk0, D.put, D.cells, D.size, D.sizeL, D.isAg, D.at, D.sub, eM, eG, eS, eI, eB, famModel_t, tModel, famBoolSS_t, famBoolSSS_t, famExpr_t, eE_eta, tE_k, tE_n, tE_nn, tE_ks, bne_self_eq_false, go_sem, ↓reduceIte, Nat.reduceEqDiff, Nat.reduceAdd, Nat.reduceLeDiff, Nat.reduceMul, Nat.reduceBEq, Nat.reduceBneDiff, Nat.reduceLT, Nat.reduceSub, Bool.false_eq_true, List.cons_append, List.nil_append]
  refine callQ_self (ds := [eS 1 eI (n2, l), eS 1 eI (n1, l)]) ?_ (hqR) ?_
  · simp only [eM, eG, eS, eI, eB, famModel_t, tModel, famBoolSS_t, famBoolSSS_t, famExpr_t, eE_eta, tE_k, tE_n, tE_nn, tE_ks, bne_self_eq_false]; exact rfl
  simp +contextual -implicitDefEqProofs only [Bool.not_true, eM, eG, eS, eI, eB, famModel_t, tModel, famBoolSS_t, famBoolSSS_t, famExpr_t, eE_eta, tE_k, tE_n, tE_nn, tE_ks, bne_self_eq_false, go_sem, ↓reduceIte, Nat.reduceEqDiff, Nat.reduceAdd, Nat.reduceLeDiff, Nat.reduceMul, Nat.reduceBEq, Nat.reduceBneDiff, Nat.reduceLT, Nat.reduceSub, Bool.false_eq_true, List.cons_append, List.nil_append]
  refine ⟨eS 1 eI mR, 1 + cR, hM1, rfl, ?_⟩
  simp +contextual -implicitDefEqProofs only [D.put, D.cells, D.size, D.sizeL, D.isAg, D.at, D.sub, eM, eG, eS, eI, eB, famModel_t, tModel, famBoolSS_t, famBoolSSS_t, famExpr_t, eE_eta, tE_k, tE_n, tE_nn, tE_ks, bne_self_eq_false, go_sem, ↓reduceIte, Nat.reduceEqDiff, Nat.reduceAdd, Nat.reduceLeDiff, Nat.reduceMul, Nat.reduceBEq, Nat.reduceBneDiff, Nat.reduceLT, Nat.reduceSub, Bool.false_eq_true, List.cons_append, List.nil_append]
  refine callQ_self (ds := [eS 1 eI mR, eI 1]) ?_ (hH1) ?_
  · simp only [eM, eG, eS, eI, eB, famModel_t, tModel, famBoolSS_t, famBoolSSS_t, famExpr_t, eE_eta, tE_k, tE_n, tE_nn, tE_ks, bne_self_eq_false]; exact rfl
  simp +contextual -implicitDefEqProofs only [hk1, eM, eG, eS, eI, eB, famModel_t, tModel, famBoolSS_t, famBoolSSS_t, famExpr_t, eE_eta, tE_k, tE_n, tE_nn, tE_ks, bne_self_eq_false, go_sem, ↓reduceIte, Nat.reduceEqDiff, Nat.reduceAdd, Nat.reduceLeDiff, Nat.reduceMul, Nat.reduceBEq, Nat.reduceBneDiff, Nat.reduceLT, Nat.reduceSub, Bool.false_eq_true, List.cons_append, List.nil_append]
  refine callQ_self (ds := [eM m]) ?_ (famModel.afT m hf0) ?_
  · simp only [eM, eG, eS, eI, eB, famModel_t, tModel, famBoolSS_t, famBoolSSS_t, famExpr_t, eE_eta, tE_k, tE_n, tE_nn, tE_ks, bne_self_eq_false]; exact rfl
  simp +contextual -implicitDefEqProofs only [eM, eG, eS, eI, eB, famModel_t, tModel, famBoolSS_t, famBoolSSS_t, famExpr_t, eE_eta, tE_k, tE_n, tE_nn, tE_ks, bne_self_eq_false, go_sem, ↓reduceIte, Nat.reduceEqDiff, Nat.reduceAdd, Nat.reduceLeDiff, Nat.reduceMul, Nat.reduceBEq, Nat.reduceBneDiff, Nat.reduceLT, Nat.reduceSub, Bool.false_eq_true, List.cons_append, List.nil_append]
  refine callQ_self (ds := [eE e]) ?_ (famExpr.afT e hf1) ?_
  · simp only [eM, eG, eS, eI, eB, famModel_t, tModel, famBoolSS_t, famBoolSSS_t, famExpr_t, eE_eta, tE_k, tE_n, tE_nn, tE_ks, bne_self_eq_false]; exact rfl
  simp +contextual -implicitDefEqProofs only [eM, eG, eS, eI, eB, famModel_t, tModel, famBoolSS_t, famBoolSSS_t, famExpr_t, eE_eta, tE_k, tE_n, tE_nn, tE_ks, bne_self_eq_false, go_sem, ↓reduceIte, Nat.reduceEqDiff, Nat.reduceAdd, Nat.reduceLeDiff, Nat.reduceMul, Nat.reduceBEq, Nat.reduceBneDiff, Nat.reduceLT, Nat.reduceSub, Bool.false_eq_true, List.cons_append, List.nil_append]
  refine callQ_self (ds := [eS 1 eI (nn, xs)]) ?_ (af_toS mixed encI noI ⟨rfl, rfl, rfl⟩ res20 (nn, xs) ⟨by show 8 * xs.length ≤ _; omega, by show xs.length ≤ _; omega⟩) ?_
  · simp only [eM, eG, eS, eI, eB, famModel_t, tModel, famBoolSS_t, famBoolSSS_t, famExpr_t, eE_eta, tE_k, tE_n, tE_nn, tE_ks, bne_self_eq_false]; exact rfl
  simp +contextual -implicitDefEqProofs only [eM, eG, eS, eI, eB, famModel_t, tModel, famBoolSS_t, famBoolSSS_t, famExpr_t, eE_eta, tE_k, tE_n, tE_nn, tE_ks, bne_self_eq_false, go_sem, ↓reduceIte, Nat.reduceEqDiff, Nat.reduceAdd, Nat.reduceLeDiff, Nat.reduceMul, Nat.reduceBEq, Nat.reduceBneDiff, Nat.reduceLT, Nat.reduceSub, Bool.false_eq_true, List.cons_append, List.nil_append]
  refine callQ_self (ds := [eM (famModel.t m), eE (famExpr.t e), eS 1 eI (some false, xs)]) ?_ (him) ?_
  · simp only [eM, eG, eS, eI, eB, famModel_t, tModel, famBoolSS_t, famBoolSSS_t, famExpr_t, eE_eta, tE_k, tE_n, tE_nn, tE_ks, bne_self_eq_false]; exact rfl
  simp +contextual -implicitDefEqProofs only [eM, eG, eS, eI, eB, famModel_t, tModel, famBoolSS_t, famBoolSSS_t, famExpr_t, eE_eta, tE_k, tE_n, tE_nn, tE_ks, bne_self_eq_false, go_sem, ↓reduceIte, Nat.reduceEqDiff, Nat.reduceAdd, Nat.reduceLeDiff, Nat.reduceMul, Nat.reduceBEq, Nat.reduceBneDiff, Nat.reduceLT, Nat.reduceSub, Bool.false_eq_true, List.cons_append, List.nil_append]
  refine callQ_self (ds := [eS 1 eI (n2, l), eS 1 eI (n1, l)]) ?_ (hqR) ?_
  · simp only [eM, eG, eS, eI, eB, famModel_t, tModel, famBoolSS_t, famBoolSSS_t, famExpr_t, eE_eta, tE_k, tE_n, tE_nn, tE_ks, bne_self_eq_false]; exact rfl
  simp +contextual -implicitDefEqProofs only [Bool.not_true, eM, eG, eS, eI, eB, famModel_t, tModel, famBoolSS_t, famBoolSSS_t, famExpr_t, eE_eta, tE_k, tE_n, tE_nn, tE_ks, bne_self_eq_false, go_sem, ↓reduceIte, Nat.reduceEqDiff, Nat.reduceAdd, Nat.reduceLeDiff, Nat.reduceMul, Nat.reduceBEq, Nat.reduceBneDiff, Nat.reduceLT, Nat.reduceSub, Bool.false_eq_true, List.cons_append, List.nil_append]
  refine callQ_self (ds := [eS 1 eI mR, eI 1]) ?_ (hH1) ?_
  · simp only [eM, eG, eS, eI, eB, famModel_t, tModel, famBoolSS_t, famBoolSSS_t, famExpr_t, eE_eta, tE_k, tE_n, tE_nn, tE_ks, bne_self_eq_false]; exact rfl
  simp +contextual -implicitDefEqProofs only [hk1, eM, eG, eS, eI, eB, famModel_t, tModel, famBoolSS_t, famBoolSSS_t, famExpr_t, eE_eta, tE_k, tE_n, tE_nn, tE_ks, bne_self_eq_false, go_sem, ↓reduceIte, Nat.reduceEqDiff, Nat.reduceAdd, Nat.reduceLeDiff, Nat.reduceMul, Nat.reduceBEq, Nat.reduceBneDiff, Nat.reduceLT, Nat.reduceSub, Bool.false_eq_true, List.cons_append, List.nil_append]
end Go.Ax
