/- Contracts of functions of the seat, proved over the engine. No condition. -/
import Derived.Test.YthcgldjelbmjgaaX55
import Derived.Test.YthcgldjelbmjgaaX46
import Derived.Test.YthcgldjelbmjgaaAxI
import Derived.Test.YthcgldjelbmjgaaChecked
set_option linter.unusedSimpArgs false
set_option linter.unusedVariables false
set_option linter.unnecessarySimpa false
namespace Go.Ax
open Go.Proofs
set_option linter.unusedSimpArgs false
theorem mixed : Try.prog.follows .mixedOrders = true := by kernel_rfl
theorem res169 : resF Try.prog 169 = some (12, cSzP, [.t 4]) := by kernel_rfl
theorem res85 : resF Try.prog 85 = some (27, cSzC 169 1 false, [.t 4]) := by kernel_rfl
theorem res127 : resF Try.prog 127 = some (12, cSzP, [.t 4]) := by kernel_rfl
theorem res185 : resF Try.prog 185 = some (27, cSzC 127 1 false, [.t 4]) := by kernel_rfl
theorem res108 : resF Try.prog 108 = some (27, cSzC 185 1 false, [.t 4]) := by kernel_rfl

def rc31 : RC := (.seq (.reg false [⟨none, .box 2 5 (.t 0)⟩, ⟨none, .mv 4 (.c (.sc (.int .i64 0)))⟩]) ((.seq (.reg false [⟨none, .fa 5 3 (.t 2)⟩, ⟨none, .ld 6 false 1 (.t 5)⟩, ⟨none, .mv 7 (.t 1)⟩, ⟨none, .call (some 8) 85 [(.t 6), (.t 7)]⟩, ⟨none, .mv 1 (.t 8)⟩]) ((.seq ((.seq (.reg false [⟨none, .mv 9 (.t 1)⟩, ⟨none, .bin 10 .lss (.t 9) (.c (.sc (.int .i64 0)))⟩]) (.cond (.t 10) ((.seq (.reg false [⟨none, .mv 4 (.c (.sc (.int .i64 (-1))))⟩]) (.ret))) (.skip)))) ((.seq (.reg false [⟨none, .fa 11 4 (.t 2)⟩, ⟨none, .ld 12 false 1 (.t 11)⟩, ⟨none, .mv 13 (.t 1)⟩, ⟨none, .call (some 14) 108 [(.t 12), (.t 13)]⟩, ⟨none, .mv 1 (.t 14)⟩]) ((.seq ((.seq (.reg false [⟨none, .mv 15 (.t 1)⟩, ⟨none, .bin 16 .lss (.t 15) (.c (.sc (.int .i64 0)))⟩]) (.cond (.t 16) ((.seq (.reg false [⟨none, .mv 4 (.c (.sc (.int .i64 (-1))))⟩]) (.ret))) (.skip)))) ((.seq (.reg false [⟨none, .mv 17 (.t 1)⟩, ⟨none, .mv 4 (.t 17)⟩]) (.ret))))))))))))
theorem res31 : resF Try.prog 31 = some (18, rc31, [.t 4]) := by kernel_rfl
theorem res87 : resF Try.prog 87 = some (27, cSzC 16 3 true, [.t 4]) := by kernel_rfl
theorem res16 : resF Try.prog 16 = some (12, k_szExpr 87, [.t 4]) := by kernel_rfl
theorem res50 : resF Try.prog 50 = some (11, k_toSig, [.c 2 2 true]) := by kernel_rfl
theorem af50 : K_toSig Try.prog 50 := a_toSig mixed res50
theorem res172 : resF Try.prog 172 = some (22, cToS 1 (.sc (.bool false)), [.t 2]) := by kernel_rfl
theorem res90 : resF Try.prog 90 = some (23, cToC 172 1 24 false (.ls (some true) 1 []), [.t 2]) := by kernel_rfl
theorem res20 : resF Try.prog 20 = some (22, cToS 8 (.sc (.int .i64 0)), [.t 2]) := by kernel_rfl
theorem res194 : resF Try.prog 194 = some (23, cToC 20 1 24 false (.ls (some true) 1 []), [.t 2]) := by kernel_rfl
theorem res112 : resF Try.prog 112 = some (23, cToC 194 1 24 false (.ls (some true) 1 []), [.t 2]) := by kernel_rfl

def rc33 : RC := (.seq (.reg false [⟨none, .box 1 5 (.t 0)⟩, ⟨none, .zer 2 5 (.ag [(.sc (.int .i64 0)), (.sc (.int .i64 0)), (.sc (.int .i64 0)), (.ls (some true) 1 []), (.ls (some true) 1 [])])⟩]) ((.seq (.reg false [⟨none, .zer 3 5 (.ag [(.sc (.int .i64 0)), (.sc (.int .i64 0)), (.sc (.int .i64 0)), (.ls (some true) 1 []), (.ls (some true) 1 [])])⟩]) ((.seq (.reg false [⟨none, .fa 4 0 (.t 1)⟩, ⟨none, .ld 5 true 2 (.t 4)⟩, ⟨none, .call (some 6) 50 [(.t 5)]⟩, ⟨none, .fa 7 0 (.t 3)⟩, ⟨none, .st 2 (.t 7) (.t 6)⟩]) ((.seq (.reg false [⟨none, .fa 8 2 (.t 1)⟩, ⟨none, .ld 9 false 1 (.t 8)⟩, ⟨none, .fa 10 2 (.t 3)⟩, ⟨none, .st 1 (.t 10) (.t 9)⟩]) ((.seq (.reg false [⟨none, .fa 11 3 (.t 1)⟩, ⟨none, .ld 12 false 1 (.t 11)⟩, ⟨none, .call (some 13) 90 [(.t 12)]⟩, ⟨none, .fa 14 3 (.t 3)⟩, ⟨none, .st 1 (.t 14) (.t 13)⟩]) ((.seq (.reg false [⟨none, .fa 15 4 (.t 1)⟩, ⟨none, .ld 16 false 1 (.t 15)⟩, ⟨none, .call (some 17) 112 [(.t 16)]⟩, ⟨none, .fa 18 4 (.t 3)⟩, ⟨none, .st 1 (.t 18) (.t 17)⟩]) ((.seq (.reg false [⟨none, .ld 19 true 5 (.t 3)⟩, ⟨none, .st 5 (.t 2) (.t 19)⟩]) (.ret))))))))))))))
theorem res33 : resF Try.prog 33 = some (20, rc33, [.c 2 5 true]) := by kernel_rfl
theorem res92 : resF Try.prog 92 = some (23, cToC 19 3 40 true (.ag [(.sc (.int .i64 0)), (.sc (.int .i64 0)), (.ls (some true) 3 [])]), [.t 2]) := by kernel_rfl
theorem res19 : resF Try.prog 19 = some (15, k_toExpr 92, [.c 2 3 true]) := by kernel_rfl
theorem res159 : resF Try.prog 159 = some (15, k_l00In, [.t 6]) := by kernel_rfl
theorem af159 : K_l00In Try.prog 159 := a_l00In mixed res159
theorem res148 : resF Try.prog 148 = some (11, k_l01Sig 159, [.t 2]) := by kernel_rfl
theorem af148 : K_l01Sig Try.prog 148 := a_l01Sig mixed res148 af159
theorem res186 : resF Try.prog 186 = some (36, k_l05Tests 148 159, [.t 6]) := by kernel_rfl
theorem af186 : K_l05Tests Try.prog 186 := a_l05Tests mixed res186 af148 af159
theorem res109 : resF Try.prog 109 = some (113, k_l05CostsOk 186 159, [.t 2]) := by kernel_rfl
theorem af109 : K_l05CostsOk Try.prog 109 := a_l05CostsOk mixed res109 af186 af159
theorem res187 : resF Try.prog 187 = some (30, k_l01Left 187, [.t 4]) := by kernel_rfl
theorem af187 : K_l01Left Try.prog 187 := a_l01Left mixed res187
theorem res239 : resF Try.prog 239 = some (10, k_l00Max, [.t 4]) := by kernel_rfl
theorem af239 : K_l00Max Try.prog 239 := a_l00Max mixed res239
theorem res188 : resF Try.prog 188 = some (25, k_l01Depth 188 239, [.t 2]) := by kernel_rfl
theorem af188 : K_l01Depth Try.prog 188 := a_l01Depth mixed res188 af239
theorem res240 : resF Try.prog 240 = some (15, k_l01Kids, [.t 2]) := by kernel_rfl
theorem af240 : K_l01Kids Try.prog 240 := a_l01Kids mixed res240
theorem res241 : resF Try.prog 241 = some (34, k_l01Condition 241 159, [.t 2]) := by kernel_rfl
theorem af241 : K_l01Condition Try.prog 241 := a_l01Condition mixed res241 af159
theorem res189 : resF Try.prog 189 = some (80, k_l01Tree 189 240 159 241, [.t 4]) := by kernel_rfl
theorem af189 : K_l01Tree Try.prog 189 := a_l01Tree mixed res189 af240 af159 af241
theorem res110 : resF Try.prog 110 = some (22, k_l01Ok 148 187 188 189, [.t 4]) := by kernel_rfl
theorem af110 : K_l01Ok Try.prog 110 := a_l01Ok mixed res110 af148 af187 af188 af189
theorem res190 : resF Try.prog 190 = some (27, k_l05FarAll, [.t 2]) := by kernel_rfl
theorem af190 : K_l05FarAll Try.prog 190 := a_l05FarAll mixed res190
theorem res191 : resF Try.prog 191 = some (18, k_l05Cheaper, [.t 4]) := by kernel_rfl
theorem af191 : K_l05Cheaper Try.prog 191 := a_l05Cheaper mixed res191
theorem res242 : resF Try.prog 242 = some (20, k_l05Plus, [.t 4]) := by kernel_rfl
theorem af242 : K_l05Plus Try.prog 242 := a_l05Plus mixed res242
theorem res192 : resF Try.prog 192 = some (59, k_l05CostDot 190 242 191, [.t 4]) := by kernel_rfl
theorem af192 : K_l05CostDot Try.prog 192 := a_l05CostDot mixed res192 af190 af242 af191
theorem res193 : resF Try.prog 193 = some (78, k_l05CostStar 190 242 191, [.t 2]) := by kernel_rfl
theorem af193 : K_l05CostStar Try.prog 193 := a_l05CostStar mixed res193 af190 af242 af191
theorem res111 : resF Try.prog 111 = some (200, k_l05Cost 111 190 191 192 193, [.t 4]) := by kernel_rfl
theorem af111 : K_l05Cost Try.prog 111 := a_l05Cost mixed res111 af190 af191 af192 af193
theorem res32 : resF Try.prog 32 = some (16, k_spCostsOf 109 110 111, [.t 4, .t 5]) := by kernel_rfl
theorem af32 : K_spCostsOf Try.prog 32 := a_spCostsOf mixed res32 af109 af110 af111
theorem res158 : resF Try.prog 158 = some (15, k_within, [.t 6]) := by kernel_rfl
theorem af158 : K_within Try.prog 158 := a_within mixed res158
theorem res207 : resF Try.prog 207 = some (11, k_validSig 158, [.t 2]) := by kernel_rfl
theorem af207 : K_validSig Try.prog 207 := a_validSig mixed res207 af158
theorem res226 : resF Try.prog 226 = some (24, k_isTableB, [.t 6]) := by kernel_rfl
theorem af226 : K_isTableB Try.prog 226 := a_isTableB mixed res226
theorem res227 : resF Try.prog 227 = some (24, k_isTableI, [.t 6]) := by kernel_rfl
theorem af227 : K_isTableI Try.prog 227 := a_isTableI mixed res227
theorem res157 : resF Try.prog 157 = some (46, k_isFrameI 207 158 226 227, [.t 8]) := by kernel_rfl
theorem af157 : K_isFrameI Try.prog 157 := a_isFrameI mixed res157 af207 af158 af226 af227
theorem res78 : resF Try.prog 78 = some (44, k_imValidCosts 157 158, [.t 2]) := by kernel_rfl
theorem af78 : K_imValidCosts Try.prog 78 := a_imValidCosts mixed res78 af157 af158
theorem res236 : resF Try.prog 236 = some (15, k_kidsOf, [.t 2]) := by kernel_rfl
theorem af236 : K_kidsOf Try.prog 236 := a_kidsOf mixed res236
theorem res237 : resF Try.prog 237 = some (25, k_isCondition 237, [.t 2]) := by kernel_rfl
theorem af237 : K_isCondition Try.prog 237 := a_isCondition mixed res237
theorem res174 : resF Try.prog 174 = some (86, k_shaped 174 236 158 237, [.t 8, .t 9]) := by kernel_rfl
theorem af174 : K_shaped Try.prog 174 := a_shaped mixed res174 af236 af158 af237
theorem res94 : resF Try.prog 94 = some (14, k_isExpr 174, [.t 4]) := by kernel_rfl
theorem af94 : K_isExpr Try.prog 94 := a_isExpr mixed res94 af174
theorem res195 : resF Try.prog 195 = some (33, k_tableI, [.t 4]) := by kernel_rfl
theorem af195 : K_tableI Try.prog 195 := a_tableI mixed res195
theorem res244 : resF Try.prog 244 = some (20, k_together, [.t 4]) := by kernel_rfl
theorem af244 : K_together Try.prog 244 := a_together mixed res244
theorem res200 : resF Try.prog 200 = some (18, k_cheaper, [.t 4]) := by kernel_rfl
theorem af200 : K_cheaper Try.prog 200 := a_cheaper mixed res200
theorem res243 : resF Try.prog 243 = some (33, k_product1 244 200, [.t 6]) := by kernel_rfl
theorem af243 : K_product1 Try.prog 243 := a_product1 mixed res243 af244 af200
theorem res197 : resF Try.prog 197 = some (9, k_product 195 243, [.t 4]) := by kernel_rfl
theorem af197 : K_product Try.prog 197 := a_product mixed res197 af195 af243
theorem res196 : resF Try.prog 196 = some (19, k_costs1, [.t 6]) := by kernel_rfl
theorem af196 : K_costs1 Try.prog 196 := a_costs1 mixed res196
theorem res198 : resF Try.prog 198 = some (18, k_costs2, [.t 5]) := by kernel_rfl
theorem af198 : K_costs2 Try.prog 198 := a_costs2 mixed res198
theorem res199 : resF Try.prog 199 = some (71, k_costs3 200, [.t 7]) := by kernel_rfl
theorem af199 : K_costs3 Try.prog 199 := a_costs3 mixed res199 af200
theorem res113 : resF Try.prog 113 = some (60, k_costs 113 195 197 196 198 199, [.t 4]) := by kernel_rfl
theorem af113 : K_costs Try.prog 113 := a_costs mixed res113 af195 af197 af196 af198 af199
theorem res34 : resF Try.prog 34 = some (19, k_imCostsOf 78 94 113, [.t 4, .t 5]) := by kernel_rfl
theorem af34 : K_imCostsOf Try.prog 34 := a_imCostsOf mixed res34 af78 af94 af113
theorem res22 : resF Try.prog 22 = some (26, cEqS, [.t 4]) := by kernel_rfl
theorem res35 : resF Try.prog 35 = some (27, cEqC 22 1 false, [.t 4]) := by kernel_rfl
theorem res99 : resF Try.prog 99 = some (15, k_eqSig, [.t 4]) := by kernel_rfl
theorem af99 : K_eqSig Try.prog 99 := a_eqSig mixed res99
theorem res182 : resF Try.prog 182 = some (26, cEqB, [.t 4]) := by kernel_rfl
theorem res100 : resF Try.prog 100 = some (27, cEqC 182 1 false, [.t 4]) := by kernel_rfl
theorem res114 : resF Try.prog 114 = some (27, cEqC 35 1 false, [.t 4]) := by kernel_rfl

def rc36 : RC := (.seq (.reg false [⟨none, .box 2 5 (.t 0)⟩, ⟨none, .box 3 5 (.t 1)⟩, ⟨none, .mv 4 (.c (.sc (.bool false)))⟩]) ((.seq ((.seq (.reg false [⟨none, .fa 5 0 (.t 2)⟩, ⟨none, .ld 6 true 2 (.t 5)⟩, ⟨none, .fa 7 0 (.t 3)⟩, ⟨none, .ld 8 true 2 (.t 7)⟩, ⟨none, .call (some 9) 99 [(.t 6), (.t 8)]⟩, ⟨none, .un 10 .not (.t 9)⟩]) (.cond (.t 10) ((.seq (.reg false [⟨none, .mv 4 (.c (.sc (.bool false)))⟩]) (.ret))) (.skip)))) ((.seq ((.seq (.reg false [⟨none, .fa 11 2 (.t 2)⟩, ⟨none, .ld 12 false 1 (.t 11)⟩, ⟨none, .fa 13 2 (.t 3)⟩, ⟨none, .ld 14 false 1 (.t 13)⟩, ⟨none, .bin 15 .neq (.t 12) (.t 14)⟩]) (.cond (.t 15) ((.seq (.reg false [⟨none, .mv 4 (.c (.sc (.bool false)))⟩]) (.ret))) (.skip)))) ((.seq ((.seq (.reg false [⟨none, .fa 16 3 (.t 2)⟩, ⟨none, .ld 17 false 1 (.t 16)⟩, ⟨none, .fa 18 3 (.t 3)⟩, ⟨none, .ld 19 false 1 (.t 18)⟩, ⟨none, .call (some 20) 100 [(.t 17), (.t 19)]⟩, ⟨none, .un 21 .not (.t 20)⟩]) (.cond (.t 21) ((.seq (.reg false [⟨none, .mv 4 (.c (.sc (.bool false)))⟩]) (.ret))) (.skip)))) ((.seq ((.seq (.reg false [⟨none, .fa 22 4 (.t 2)⟩, ⟨none, .ld 23 false 1 (.t 22)⟩, ⟨none, .fa 24 4 (.t 3)⟩, ⟨none, .ld 25 false 1 (.t 24)⟩, ⟨none, .call (some 26) 114 [(.t 23), (.t 25)]⟩, ⟨none, .un 27 .not (.t 26)⟩]) (.cond (.t 27) ((.seq (.reg false [⟨none, .mv 4 (.c (.sc (.bool false)))⟩]) (.ret))) (.skip)))) ((.seq (.reg false [⟨none, .mv 4 (.c (.sc (.bool true)))⟩]) (.ret))))))))))))
theorem res36 : resF Try.prog 36 = some (28, rc36, [.t 4]) := by kernel_rfl
theorem res102 : resF Try.prog 102 = some (27, cEqC 24 3 true, [.t 4]) := by kernel_rfl
theorem res24 : resF Try.prog 24 = some (21, k_eqExpr 102, [.t 4]) := by kernel_rfl
theorem res28 : resF Try.prog 28 = some (21, cHdI, [.t 4]) := by kernel_rfl
theorem res39 : resF Try.prog 39 = some (21, cHdC 28, [.t 4]) := by kernel_rfl
theorem res183 : resF Try.prog 183 = some (21, cMkB, [.t 4]) := by kernel_rfl
theorem res103 : resF Try.prog 103 = some (19, cMkC 183, [.t 4]) := by kernel_rfl
theorem res27 : resF Try.prog 27 = some (19, cMkI, [.t 4]) := by kernel_rfl
theorem res38 : resF Try.prog 38 = some (19, cMkC 27, [.t 4]) := by kernel_rfl
theorem res115 : resF Try.prog 115 = some (19, cMkC 38, [.t 4]) := by kernel_rfl

def rc37 : RC := (.seq (.reg false [⟨none, .box 2 5 (.t 0)⟩, ⟨none, .mv 4 (.c (.sc (.int .i64 0)))⟩]) ((.seq (.reg false [⟨none, .fa 5 3 (.t 2)⟩, ⟨none, .ld 6 false 1 (.t 5)⟩, ⟨none, .mv 7 (.t 1)⟩, ⟨none, .mcl 8 103 (.t 6) (.t 7)⟩, ⟨none, .mv 1 (.t 8)⟩]) ((.seq (.reg false [⟨none, .fa 9 4 (.t 2)⟩, ⟨none, .ld 10 false 1 (.t 9)⟩, ⟨none, .mv 11 (.t 1)⟩, ⟨none, .mcl 12 115 (.t 10) (.t 11)⟩, ⟨none, .mv 1 (.t 12)⟩]) ((.seq (.reg false [⟨none, .mv 13 (.t 1)⟩, ⟨none, .mv 4 (.t 13)⟩]) (.ret))))))))
theorem res37 : resF Try.prog 37 = some (14, rc37, [.t 4]) := by kernel_rfl
theorem res105 : resF Try.prog 105 = some (34, k_markExprS 105, [.t 4]) := by kernel_rfl
theorem af105 : K_markExprS Try.prog 105 := a_markExprS mixed res105
theorem res26 : resF Try.prog 26 = some (10, k_markExpr 105, [.t 4]) := by kernel_rfl
theorem af26 : K_markExpr Try.prog 26 := a_markExpr mixed res26 af105

def rc5 : RC := (.seq (.reg false [⟨none, .box 2 5 (.t 0)⟩, ⟨none, .box 3 3 (.t 1)⟩, ⟨none, .mv 4 (.c (.sc (.bool false)))⟩]) ((.seq (.reg false [⟨none, .mv 5 (.c (.sc (.int .i64 1048576)))⟩]) ((.seq (.reg false [⟨none, .ld 17 true 5 (.t 2)⟩, ⟨none, .mv 18 (.t 5)⟩, ⟨none, .call (some 19) 31 [(.t 17), (.t 18)]⟩, ⟨none, .mv 5 (.t 19)⟩]) ((.seq ((.seq (.reg false [⟨none, .mv 20 (.t 5)⟩, ⟨none, .bin 21 .lss (.t 20) (.c (.sc (.int .i64 0)))⟩]) (.cond (.t 21) ((.seq (.reg false [⟨none, .mv 4 (.c (.sc (.bool true)))⟩]) (.ret))) (.skip)))) ((.seq (.reg false [⟨none, .ld 22 true 3 (.t 3)⟩, ⟨none, .mv 23 (.t 5)⟩, ⟨none, .call (some 24) 16 [(.t 22), (.t 23)]⟩, ⟨none, .mv 5 (.t 24)⟩]) ((.seq ((.seq (.reg false [⟨none, .mv 25 (.t 5)⟩, ⟨none, .bin 26 .lss (.t 25) (.c (.sc (.int .i64 0)))⟩]) (.cond (.t 26) ((.seq (.reg false [⟨none, .mv 4 (.c (.sc (.bool true)))⟩]) (.ret))) (.skip)))) ((.seq (.reg true [⟨none, .ld 28 true 5 (.t 2)⟩, ⟨none, .call (some 29) 33 [(.t 28)]⟩, ⟨none, .ld 30 true 3 (.t 3)⟩, ⟨none, .call (some 31) 19 [(.t 30)]⟩, ⟨none, .call (some 32) 32 [(.t 29), (.t 31)]⟩, ⟨none, .mv 27 (.t 32)⟩, ⟨none, .ext 33 (.t 27) 0⟩, ⟨none, .ext 34 (.t 27) 1⟩, ⟨none, .mv 6 (.t 33)⟩, ⟨none, .mv 7 (.t 34)⟩]) ((.seq (.reg false [⟨none, .ld 35 true 5 (.t 2)⟩, ⟨none, .call (some 36) 33 [(.t 35)]⟩, ⟨none, .zer 8 5 (.ag [(.sc (.int .i64 0)), (.sc (.int .i64 0)), (.sc (.int .i64 0)), (.ls (some true) 1 []), (.ls (some true) 1 [])])⟩, ⟨none, .st 5 (.t 8) (.t 36)⟩]) ((.seq (.reg false [⟨none, .ld 37 true 3 (.t 3)⟩, ⟨none, .call (some 38) 19 [(.t 37)]⟩, ⟨none, .zer 9 3 (.ag [(.sc (.int .i64 0)), (.sc (.int .i64 0)), (.ls (some true) 3 [])])⟩, ⟨none, .st 3 (.t 9) (.t 38)⟩]) ((.seq (.reg false [⟨none, .ld 40 true 5 (.t 8)⟩, ⟨none, .ld 41 true 3 (.t 9)⟩, ⟨none, .call (some 42) 34 [(.t 40), (.t 41)]⟩, ⟨none, .mv 39 (.t 42)⟩, ⟨none, .ext 43 (.t 39) 0⟩, ⟨none, .ext 44 (.t 39) 1⟩, ⟨none, .mv 10 (.t 43)⟩, ⟨none, .mv 11 (.t 44)⟩]) ((.seq ((.seq (.reg false [⟨none, .mv 45 (.t 10)⟩, ⟨none, .mv 46 (.t 6)⟩, ⟨none, .call (some 47) 35 [(.t 45), (.t 46)]⟩, ⟨none, .un 48 .not (.t 47)⟩, ⟨none, .mv 49 (.t 48)⟩, ⟨some (49, false), .mv 50 (.t 11)⟩, ⟨some (49, false), .mv 51 (.t 7)⟩, ⟨some (49, false), .bin 52 .neq (.t 50) (.t 51)⟩, ⟨none, .pick 53 (.t 49) (.c (.sc (.bool true))) (.t 52)⟩]) (.cond (.t 53) ((.seq (.reg false [⟨none, .mv 4 (.c (.sc (.bool false)))⟩]) (.ret))) (.skip)))) ((.seq ((.seq (.reg true [⟨none, .ld 54 true 5 (.t 8)⟩, ⟨none, .ld 55 true 5 (.t 2)⟩, ⟨none, .call (some 56) 33 [(.t 55)]⟩, ⟨none, .call (some 57) 36 [(.t 54), (.t 56)]⟩, ⟨none, .un 58 .not (.t 57)⟩]) (.cond (.t 58) ((.seq (.reg false [⟨none, .mv 4 (.c (.sc (.bool false)))⟩]) (.ret))) (.skip)))) ((.seq ((.seq (.reg true [⟨none, .ld 59 true 3 (.t 9)⟩, ⟨none, .ld 60 true 3 (.t 3)⟩, ⟨none, .call (some 61) 19 [(.t 60)]⟩, ⟨none, .call (some 62) 24 [(.t 59), (.t 61)]⟩, ⟨none, .un 63 .not (.t 62)⟩]) (.cond (.t 63) ((.seq (.reg false [⟨none, .mv 4 (.c (.sc (.bool false)))⟩]) (.ret))) (.skip)))) ((.seq (.reg false [⟨none, .mv 12 (.c (.sc (.int .i64 1)))⟩]) ((.seq (.reg false [⟨none, .ld 64 true 5 (.t 8)⟩, ⟨none, .mv 65 (.t 12)⟩, ⟨none, .mcl 66 37 (.t 64) (.t 65)⟩, ⟨none, .mv 12 (.t 66)⟩]) ((.seq (.reg false [⟨none, .ld 67 true 3 (.t 9)⟩, ⟨none, .mv 68 (.t 12)⟩, ⟨none, .mcl 69 26 (.t 67) (.t 68)⟩, ⟨none, .mv 12 (.t 69)⟩]) ((.seq ((.seq (.reg false [⟨none, .mv 70 (.t 12)⟩, ⟨none, .bin 71 .lss (.t 70) (.c (.sc (.int .i64 0)))⟩, ⟨none, .mv 72 (.t 71)⟩, ⟨some (72, false), .mv 73 (.t 10)⟩, ⟨some (72, false), .mv 74 (.t 6)⟩, ⟨some (72, false), .call (some 75) 35 [(.t 73), (.t 74)]⟩, ⟨some (72, false), .un 76 .not (.t 75)⟩, ⟨none, .pick 77 (.t 72) (.c (.sc (.bool true))) (.t 76)⟩, ⟨none, .mv 78 (.t 77)⟩, ⟨some (78, false), .mv 79 (.t 11)⟩, ⟨some (78, false), .mv 80 (.t 7)⟩, ⟨some (78, false), .bin 81 .neq (.t 79) (.t 80)⟩, ⟨none, .pick 82 (.t 78) (.c (.sc (.bool true))) (.t 81)⟩]) (.cond (.t 82) ((.seq (.reg false [⟨none, .mv 4 (.c (.sc (.bool false)))⟩]) (.ret))) (.skip)))) ((.seq (.reg false [⟨none, .mv 13 (.c (.sc (.int .i64 1)))⟩]) ((.seq (.reg false [⟨none, .mv 83 (.t 10)⟩, ⟨none, .mv 84 (.t 13)⟩, ⟨none, .mcl 85 38 (.t 83) (.t 84)⟩, ⟨none, .mv 13 (.t 85)⟩]) ((.seq (.reg false [⟨none, .mv 14 (.c (.sc (.int .i64 1)))⟩]) ((.seq (.reg false [⟨none, .mv 86 (.t 10)⟩, ⟨none, .mv 87 (.t 14)⟩, ⟨none, .call (some 88) 39 [(.t 86), (.t 87)]⟩, ⟨none, .mv 14 (.t 88)⟩]) ((.seq ((.seq (.reg false [⟨none, .mv 89 (.t 14)⟩, ⟨none, .bin 90 .lss (.t 89) (.c (.sc (.int .i64 0)))⟩]) (.cond (.t 90) ((.seq (.reg false [⟨none, .mv 4 (.c (.sc (.bool false)))⟩]) (.ret))) (.skip)))) ((.seq ((.seq (.reg false [⟨none, .mv 91 (.t 14)⟩, ⟨none, .mv 92 (.t 13)⟩, ⟨none, .bin 93 .neq (.t 91) (.t 92)⟩]) (.cond (.t 93) ((.seq (.reg false [⟨none, .mv 4 (.c (.sc (.bool false)))⟩]) (.ret))) (.skip)))) ((.seq (.reg true [⟨none, .ld 95 true 5 (.t 2)⟩, ⟨none, .call (some 96) 33 [(.t 95)]⟩, ⟨none, .ld 97 true 3 (.t 3)⟩, ⟨none, .call (some 98) 19 [(.t 97)]⟩, ⟨none, .call (some 99) 34 [(.t 96), (.t 98)]⟩, ⟨none, .mv 94 (.t 99)⟩, ⟨none, .ext 100 (.t 94) 0⟩, ⟨none, .ext 101 (.t 94) 1⟩, ⟨none, .mv 15 (.t 100)⟩, ⟨none, .mv 16 (.t 101)⟩]) ((.seq ((.seq (.reg false [⟨none, .mv 102 (.t 15)⟩, ⟨none, .mv 103 (.t 6)⟩, ⟨none, .call (some 104) 35 [(.t 102), (.t 103)]⟩, ⟨none, .un 105 .not (.t 104)⟩, ⟨none, .mv 106 (.t 105)⟩, ⟨some (106, false), .mv 107 (.t 16)⟩, ⟨some (106, false), .mv 108 (.t 7)⟩, ⟨some (106, false), .bin 109 .neq (.t 107) (.t 108)⟩, ⟨none, .pick 110 (.t 106) (.c (.sc (.bool true))) (.t 109)⟩]) (.cond (.t 110) ((.seq (.reg false [⟨none, .mv 4 (.c (.sc (.bool false)))⟩]) (.ret))) (.skip)))) ((.seq (.reg false [⟨none, .mv 14 (.c (.sc (.int .i64 1)))⟩]) ((.seq (.reg false [⟨none, .mv 111 (.t 10)⟩, ⟨none, .mv 112 (.t 14)⟩, ⟨none, .call (some 113) 39 [(.t 111), (.t 112)]⟩, ⟨none, .mv 14 (.t 113)⟩]) ((.seq ((.seq (.reg false [⟨none, .mv 114 (.t 14)⟩, ⟨none, .bin 115 .lss (.t 114) (.c (.sc (.int .i64 0)))⟩]) (.cond (.t 115) ((.seq (.reg false [⟨none, .mv 4 (.c (.sc (.bool false)))⟩]) (.ret))) (.skip)))) ((.seq ((.seq (.reg false [⟨none, .mv 116 (.t 14)⟩, ⟨none, .mv 117 (.t 13)⟩, ⟨none, .bin 118 .neq (.t 116) (.t 117)⟩]) (.cond (.t 118) ((.seq (.reg false [⟨none, .mv 4 (.c (.sc (.bool false)))⟩]) (.ret))) (.skip)))) ((.seq (.reg false [⟨none, .mv 4 (.c (.sc (.bool true)))⟩]) (.ret))))))))))))))))))))))))))))))))))))))))))))))))))))))))))))
theorem res5 : resF Try.prog 5 = some (119, rc5, [.t 4]) := by kernel_rfl
noncomputable def famBoolS : Fam Try.prog (eS 1 eB) 169 172 182 := famP mixed encB noB ⟨rfl, rfl, rfl⟩ (by omega) res169 res172 (eqL fun x y => x == y) (fun _ => eqL_refl fun _ _ => by simp) fun a b => af_eqB mixed res182 a b
theorem famBoolS_t (x) : famBoolS.t x = (some false, x.2) := rfl
noncomputable def famBoolSS : Fam Try.prog (eS 1 (eS 1 eB)) 85 90 100 := famC mixed famBoolS (encS eB 1) ⟨rfl, rfl, rfl⟩ (by omega) res85 res90 res100
theorem famBoolSS_t (x) : famBoolSS.t x = (some false, x.2.map famBoolS.t) := rfl
noncomputable def famInt64S : Fam Try.prog (eS 1 eI) 127 20 22 := famP mixed encI noI ⟨rfl, rfl, rfl⟩ (by omega) res127 res20 (eqL fun x y => x == y) (fun _ => eqL_refl fun _ _ => by simp) fun a b => af_eqS mixed res22 a b
theorem famInt64S_t (x) : famInt64S.t x = (some false, x.2) := rfl
noncomputable def famInt64SS : Fam Try.prog (eS 1 (eS 1 eI)) 185 194 35 := famC mixed famInt64S (encS eI 1) ⟨rfl, rfl, rfl⟩ (by omega) res185 res194 res35
theorem famInt64SS_t (x) : famInt64SS.t x = (some false, x.2.map famInt64S.t) := rfl
noncomputable def famInt64SSS : Fam Try.prog (eS 1 (eS 1 (eS 1 eI))) 108 112 114 := famC mixed famInt64SS (encS (eS 1 eI) 1) ⟨rfl, rfl, rfl⟩ (by omega) res108 res112 res114
theorem famInt64SSS_t (x) : famInt64SSS.t x = (some false, x.2.map famInt64SS.t) := rfl
noncomputable def szCosts (m : Co) : Int → Int := fun l => nx (famBoolSS.s m.2.2.1 l) (fun l => nx (famInt64SSS.s m.2.2.2 l) (fun l => l))
def fitCosts (m : Co) : Prop := famBoolSS.fit m.2.2.1 ∧ famInt64SSS.fit m.2.2.2
noncomputable def tCosts (m : Co) : Co := (m.1, m.2.1, famBoolSS.t m.2.2.1, famInt64SSS.t m.2.2.2)
noncomputable def qCosts (a b : Co) : Bool := (qG a.1 b.1 && ((a.2.1 == b.2.1) && (famBoolSS.q a.2.2.1 b.2.2.1 && famInt64SSS.q a.2.2.2 b.2.2.2)))
theorem szCosts_in (m : Co) (l : Int) (h1 : 0 ≤ l) (h2 : l ≤ 1048576) : -1 ≤ szCosts m l ∧ szCosts m l ≤ l := by
  refine in_tr (Int.le_refl l) (nx_in (famBoolSS.s_in m.2.2.1 l h1 (by omega)) h1 (by omega) fun y0 a0 b0 => ?_)
  refine in_tr b0 (nx_in (famInt64SSS.s_in m.2.2.2 y0 a0 (by omega)) a0 (by omega) fun y1 a1 b1 => ?_)
  exact ⟨by omega, b1⟩
theorem szCosts_fit (m : Co) (l : Int) (h2 : l ≤ 1048576) (h1 : 0 ≤ l) (h : 0 ≤ szCosts m l) : fitCosts m := by
  obtain ⟨p0, h⟩ := nx_fit h
  have e0 := famBoolSS.s_fit m.2.2.1 l (by omega) h1 p0
  have b0 := famBoolSS.s_in m.2.2.1 l h1 (by omega)
  obtain ⟨p1, h⟩ := nx_fit h
  have e1 := famInt64SSS.s_fit m.2.2.2 _ (by omega) p0 p1
  have b1 := famInt64SSS.s_in m.2.2.2 (famBoolSS.s m.2.2.1 l) p0 (by omega)
  exact ⟨e0, e1⟩
theorem af31 (m : Co) (l : Int) (h1 : 0 ≤ l) (h2 : l ≤ 1048576) : AF Try.prog 31 [eCo m, eI l] (.own (eI (szCosts m l))) := by
  refine af_of_res res31 mixed rfl fun _ => ?_
  simp +contextual -implicitDefEqProofs only [rc31, eCo, eG, eS, go_sem, eI, eB, ↓reduceIte, Nat.reduceEqDiff, Nat.reduceAdd, Nat.reduceLeDiff, Nat.reduceMul, Nat.reduceBEq, Nat.reduceBneDiff, Nat.reduceLT, Nat.reduceSub, decide_true, decide_false, and_self, true_and, and_true, false_and, and_false, not_true_eq_false, not_false_eq_true, false_implies, true_implies, implies_true, ge_iff_le, Bool.false_eq_true, List.cons_append, List.nil_append]
  refine callQ_self ?_ (famBoolSS.afS m.2.2.1 l (by omega) (by omega)) ?_
  · first | exact rfl | (simp only [eE_eta]; exact rfl)
  simp +contextual -implicitDefEqProofs only [eCo, eG, eS, go_sem, eI, eB, ↓reduceIte, Nat.reduceEqDiff, Nat.reduceAdd, Nat.reduceLeDiff, Nat.reduceMul, Nat.reduceBEq, Nat.reduceBneDiff, Nat.reduceLT, Nat.reduceSub, decide_true, decide_false, and_self, true_and, and_true, false_and, and_false, not_true_eq_false, not_false_eq_true, false_implies, true_implies, implies_true, ge_iff_le, Bool.false_eq_true, List.cons_append, List.nil_append]
  have b0 := famBoolSS.s_in m.2.2.1 l (by omega) (by omega)
  refine ⟨fun h => D.Le.sc_eq (by simp only [szCosts]; rw [nx_neg h]), fun g0 => ?_⟩
  refine callQ_self ?_ (famInt64SSS.afS m.2.2.2 (famBoolSS.s m.2.2.1 l) (by omega) (by omega)) ?_
  · first | exact rfl | (simp only [eE_eta]; exact rfl)
  simp +contextual -implicitDefEqProofs only [eCo, eG, eS, go_sem, eI, eB, ↓reduceIte, Nat.reduceEqDiff, Nat.reduceAdd, Nat.reduceLeDiff, Nat.reduceMul, Nat.reduceBEq, Nat.reduceBneDiff, Nat.reduceLT, Nat.reduceSub, decide_true, decide_false, and_self, true_and, and_true, false_and, and_false, not_true_eq_false, not_false_eq_true, false_implies, true_implies, implies_true, ge_iff_le, Bool.false_eq_true, List.cons_append, List.nil_append]
  have b1 := famInt64SSS.s_in m.2.2.2 (famBoolSS.s m.2.2.1 l) (by omega) (by omega)
  refine ⟨fun h => D.Le.sc_eq (by simp only [szCosts]; rw [nx_pos g0, nx_neg h]), fun g1 => ?_⟩
  exact D.Le.sc_eq (by simp only [szCosts]; rw [nx_pos g0, nx_pos g1])
theorem af33 (m : Co) (h : fitCosts m) : AF Try.prog 33 [eCo m] (.own (eCo (tCosts m))) := by
  refine af_of_res res33 mixed rfl fun _ => ?_
  simp +contextual -implicitDefEqProofs only [rc33, eCo, eG, eS, tCosts, famBoolSS_t, famInt64SSS_t, go_sem, eI, eB, ↓reduceIte, Nat.reduceEqDiff, Nat.reduceAdd, Nat.reduceLeDiff, Nat.reduceMul, Nat.reduceBEq, Nat.reduceBneDiff, Nat.reduceLT, Nat.reduceSub, decide_true, decide_false, and_self, true_and, and_true, false_and, and_false, not_true_eq_false, not_false_eq_true, false_implies, true_implies, implies_true, ge_iff_le, Bool.false_eq_true, List.cons_append, List.nil_append]
  refine callQ_self ?_ (af50 m.1) ?_
  · first | exact rfl | (simp only [eE_eta]; exact rfl)
  simp +contextual -implicitDefEqProofs only [eCo, eG, eS, tCosts, famBoolSS_t, famInt64SSS_t, go_sem, eI, eB, ↓reduceIte, Nat.reduceEqDiff, Nat.reduceAdd, Nat.reduceLeDiff, Nat.reduceMul, Nat.reduceBEq, Nat.reduceBneDiff, Nat.reduceLT, Nat.reduceSub, decide_true, decide_false, and_self, true_and, and_true, false_and, and_false, not_true_eq_false, not_false_eq_true, false_implies, true_implies, implies_true, ge_iff_le, Bool.false_eq_true, List.cons_append, List.nil_append]
  refine callQ_self ?_ (famBoolSS.afT m.2.2.1 h.1) ?_
  · first | exact rfl | (simp only [eE_eta]; exact rfl)
  simp +contextual -implicitDefEqProofs only [eCo, eG, eS, tCosts, famBoolSS_t, famInt64SSS_t, go_sem, eI, eB, ↓reduceIte, Nat.reduceEqDiff, Nat.reduceAdd, Nat.reduceLeDiff, Nat.reduceMul, Nat.reduceBEq, Nat.reduceBneDiff, Nat.reduceLT, Nat.reduceSub, decide_true, decide_false, and_self, true_and, and_true, false_and, and_false, not_true_eq_false, not_false_eq_true, false_implies, true_implies, implies_true, ge_iff_le, Bool.false_eq_true, List.cons_append, List.nil_append]
  refine callQ_self ?_ (famInt64SSS.afT m.2.2.2 h.2) ?_
  · first | exact rfl | (simp only [eE_eta]; exact rfl)
  simp +contextual -implicitDefEqProofs only [eCo, eG, eS, tCosts, famBoolSS_t, famInt64SSS_t, go_sem, eI, eB, ↓reduceIte, Nat.reduceEqDiff, Nat.reduceAdd, Nat.reduceLeDiff, Nat.reduceMul, Nat.reduceBEq, Nat.reduceBneDiff, Nat.reduceLT, Nat.reduceSub, decide_true, decide_false, and_self, true_and, and_true, false_and, and_false, not_true_eq_false, not_false_eq_true, false_implies, true_implies, implies_true, ge_iff_le, Bool.false_eq_true, List.cons_append, List.nil_append]
theorem af36 (a b : Co) : AF Try.prog 36 [eCo a, eCo b] (.own (eB (qCosts a b))) := by
  refine af_of_res res36 mixed rfl fun _ => ?_
  simp +contextual -implicitDefEqProofs only [rc36, qCosts, bne, Bool.not_true, Bool.not_false, Bool.true_and, Bool.false_and, Bool.and_true, Bool.and_false, eCo, eG, eS, go_sem, eI, eB, ↓reduceIte, Nat.reduceEqDiff, Nat.reduceAdd, Nat.reduceLeDiff, Nat.reduceMul, Nat.reduceBEq, Nat.reduceBneDiff, Nat.reduceLT, Nat.reduceSub, decide_true, decide_false, and_self, true_and, and_true, false_and, and_false, not_true_eq_false, not_false_eq_true, false_implies, true_implies, implies_true, ge_iff_le, Bool.false_eq_true, List.cons_append, List.nil_append]
  refine callQ_self ?_ (af99 a.1 b.1) ?_
  · first | exact rfl | (simp only [eE_eta]; exact rfl)
  cases e0 : qG a.1 b.1
  · simp +contextual -implicitDefEqProofs only [qCosts, bne, Bool.not_true, Bool.not_false, Bool.true_and, Bool.false_and, Bool.and_true, Bool.and_false, eCo, eG, eS, e0, go_sem, eI, eB, ↓reduceIte, Nat.reduceEqDiff, Nat.reduceAdd, Nat.reduceLeDiff, Nat.reduceMul, Nat.reduceBEq, Nat.reduceBneDiff, Nat.reduceLT, Nat.reduceSub, decide_true, decide_false, and_self, true_and, and_true, false_and, and_false, not_true_eq_false, not_false_eq_true, false_implies, true_implies, implies_true, ge_iff_le, Bool.false_eq_true, List.cons_append, List.nil_append]
  cases e1 : (a.2.1 == b.2.1)
  · simp +contextual -implicitDefEqProofs only [qCosts, bne, Bool.not_true, Bool.not_false, Bool.true_and, Bool.false_and, Bool.and_true, Bool.and_false, eCo, eG, eS, e0, e1, go_sem, eI, eB, ↓reduceIte, Nat.reduceEqDiff, Nat.reduceAdd, Nat.reduceLeDiff, Nat.reduceMul, Nat.reduceBEq, Nat.reduceBneDiff, Nat.reduceLT, Nat.reduceSub, decide_true, decide_false, and_self, true_and, and_true, false_and, and_false, not_true_eq_false, not_false_eq_true, false_implies, true_implies, implies_true, ge_iff_le, Bool.false_eq_true, List.cons_append, List.nil_append]
  simp +contextual -implicitDefEqProofs only [qCosts, bne, Bool.not_true, Bool.not_false, Bool.true_and, Bool.false_and, Bool.and_true, Bool.and_false, eCo, eG, eS, e0, e1, go_sem, eI, eB, ↓reduceIte, Nat.reduceEqDiff, Nat.reduceAdd, Nat.reduceLeDiff, Nat.reduceMul, Nat.reduceBEq, Nat.reduceBneDiff, Nat.reduceLT, Nat.reduceSub, decide_true, decide_false, and_self, true_and, and_true, false_and, and_false, not_true_eq_false, not_false_eq_true, false_implies, true_implies, implies_true, ge_iff_le, Bool.false_eq_true, List.cons_append, List.nil_append]
  refine callQ_self ?_ (famBoolSS.afQ a.2.2.1 b.2.2.1) ?_
  · first | exact rfl | (simp only [eE_eta]; exact rfl)
  cases e2 : famBoolSS.q a.2.2.1 b.2.2.1
  · simp +contextual -implicitDefEqProofs only [qCosts, bne, Bool.not_true, Bool.not_false, Bool.true_and, Bool.false_and, Bool.and_true, Bool.and_false, eCo, eG, eS, e0, e1, e2, go_sem, eI, eB, ↓reduceIte, Nat.reduceEqDiff, Nat.reduceAdd, Nat.reduceLeDiff, Nat.reduceMul, Nat.reduceBEq, Nat.reduceBneDiff, Nat.reduceLT, Nat.reduceSub, decide_true, decide_false, and_self, true_and, and_true, false_and, and_false, not_true_eq_false, not_false_eq_true, false_implies, true_implies, implies_true, ge_iff_le, Bool.false_eq_true, List.cons_append, List.nil_append]
  simp +contextual -implicitDefEqProofs only [qCosts, bne, Bool.not_true, Bool.not_false, Bool.true_and, Bool.false_and, Bool.and_true, Bool.and_false, eCo, eG, eS, e0, e1, e2, go_sem, eI, eB, ↓reduceIte, Nat.reduceEqDiff, Nat.reduceAdd, Nat.reduceLeDiff, Nat.reduceMul, Nat.reduceBEq, Nat.reduceBneDiff, Nat.reduceLT, Nat.reduceSub, decide_true, decide_false, and_self, true_and, and_true, false_and, and_false, not_true_eq_false, not_false_eq_true, false_implies, true_implies, implies_true, ge_iff_le, Bool.false_eq_true, List.cons_append, List.nil_append]
  refine callQ_self ?_ (famInt64SSS.afQ a.2.2.2 b.2.2.2) ?_
  · first | exact rfl | (simp only [eE_eta]; exact rfl)
  cases e3 : famInt64SSS.q a.2.2.2 b.2.2.2
  · simp +contextual -implicitDefEqProofs only [qCosts, bne, Bool.not_true, Bool.not_false, Bool.true_and, Bool.false_and, Bool.and_true, Bool.and_false, eCo, eG, eS, e0, e1, e2, e3, go_sem, eI, eB, ↓reduceIte, Nat.reduceEqDiff, Nat.reduceAdd, Nat.reduceLeDiff, Nat.reduceMul, Nat.reduceBEq, Nat.reduceBneDiff, Nat.reduceLT, Nat.reduceSub, decide_true, decide_false, and_self, true_and, and_true, false_and, and_false, not_true_eq_false, not_false_eq_true, false_implies, true_implies, implies_true, ge_iff_le, Bool.false_eq_true, List.cons_append, List.nil_append]
  · simp +contextual -implicitDefEqProofs only [qCosts, bne, Bool.not_true, Bool.not_false, Bool.true_and, Bool.false_and, Bool.and_true, Bool.and_false, eCo, eG, eS, e0, e1, e2, e3, go_sem, eI, eB, ↓reduceIte, Nat.reduceEqDiff, Nat.reduceAdd, Nat.reduceLeDiff, Nat.reduceMul, Nat.reduceBEq, Nat.reduceBneDiff, Nat.reduceLT, Nat.reduceSub, decide_true, decide_false, and_self, true_and, and_true, false_and, and_false, not_true_eq_false, not_false_eq_true, false_implies, true_implies, implies_true, ge_iff_le, Bool.false_eq_true, List.cons_append, List.nil_append]
theorem qCosts_refl (m : Co) : qCosts m m = true := by simp [qCosts, qG, famBoolSS.q_refl, famInt64SSS.q_refl]
noncomputable def famCosts : Fam Try.prog eCo 31 33 36 := ⟨szCosts, tCosts, qCosts, fitCosts, szCosts_in, szCosts_fit, qCosts_refl, af31, af33, af36⟩
theorem famCosts_t (x) : famCosts.t x = tCosts x := rfl
noncomputable def famExpr : Fam Try.prog eE 16 19 24 := famE mixed res16 res87 res19 res92 res24 res102
theorem famExpr_t (x) : famExpr.t x = tE x := rfl
noncomputable def hfInt64S : HFam Try.prog (eS 1 eI) famInt64S.s famInt64S.t 27 28 := hfI mixed (fun _ _ => rfl) (fun _ => rfl) res27 res28
noncomputable def hfInt64SS : HFam Try.prog (eS 1 (eS 1 eI)) famInt64SS.s famInt64SS.t 38 39 := hfC mixed famInt64S (encS eI 1) hfInt64S (fun _ => rfl) res38 res39
noncomputable def hfBoolS : MFam Try.prog (eS 1 eB) famBoolS.s famBoolS.t 183 := mfB (fun _ _ => rfl) (fun _ => rfl) res183
noncomputable def hfBoolSS : MFam Try.prog (eS 1 (eS 1 eB)) famBoolSS.s famBoolSS.t 103 := mfC famBoolS (encS eB 1) hfBoolS (fun _ => rfl) res103
noncomputable def hfInt64SSS : MFam Try.prog (eS 1 (eS 1 (eS 1 eI))) famInt64SSS.s famInt64SSS.t 115 := mfC famInt64SS (encS (eS 1 eI) 1) hfInt64SS.toM (fun _ => rfl) res115
noncomputable def mrkCosts (m : Co) (k : Int) : Co := (m.1, m.2.1, hfBoolSS.mrk m.2.2.1 k, hfInt64SSS.mrk m.2.2.2 (k + hfBoolSS.cnt m.2.2.1))
noncomputable def cntCosts (m : Co) : Nat := hfBoolSS.cnt m.2.2.1 + hfInt64SSS.cnt m.2.2.2
theorem mk_Costs (m : Co) (k : Int) (h0 : 0 ≤ k) (h1 : k + cntCosts m ≤ maxK) : AFM Try.prog 37 (eCo m) k (eCo (mrkCosts m k)) (k + cntCosts m) := by
  unfold cntCosts at h1 ⊢
  refine afm_ag res37 (by omega) rfl fun hbd => ?_
  simp +contextual -implicitDefEqProofs only [rc37, eCo, eG, eS, eI, D.at, D.sub, D.put, D.cells, D.size, D.sizeL, D.isAg, go_sem, eB, ↓reduceIte, Nat.reduceEqDiff, Nat.reduceAdd, Nat.reduceLeDiff, Nat.reduceMul, Nat.reduceBEq, Nat.reduceBneDiff, Nat.reduceLT, Nat.reduceSub, decide_true, decide_false, and_self, true_and, and_true, false_and, and_false, not_true_eq_false, not_false_eq_true, false_implies, true_implies, implies_true, ge_iff_le, Bool.false_eq_true, List.cons_append, List.nil_append, Int.ofNat_lt, List.length_map, Int.natCast_nonneg]
  refine mMcl_self (e' := eS 1 (eS 1 eB) (hfBoolSS.mrk m.2.2.1 k)) (n' := k + hfBoolSS.cnt m.2.2.1) ?_ rfl (.inr rfl) ?_
  · exact hfBoolSS.afM m.2.2.1 k (by omega) (by omega)
  simp +contextual -implicitDefEqProofs only [eCo, eG, eS, eI, D.at, D.sub, D.put, D.cells, D.size, D.sizeL, D.isAg, mrkCosts, go_sem, eB, ↓reduceIte, Nat.reduceEqDiff, Nat.reduceAdd, Nat.reduceLeDiff, Nat.reduceMul, Nat.reduceBEq, Nat.reduceBneDiff, Nat.reduceLT, Nat.reduceSub, decide_true, decide_false, and_self, true_and, and_true, false_and, and_false, not_true_eq_false, not_false_eq_true, false_implies, true_implies, implies_true, ge_iff_le, Bool.false_eq_true, List.cons_append, List.nil_append, Int.ofNat_lt, List.length_map, Int.natCast_nonneg]
  refine mMcl_self (e' := eS 1 (eS 1 (eS 1 eI)) (hfInt64SSS.mrk m.2.2.2 (k + hfBoolSS.cnt m.2.2.1))) (n' := k + hfBoolSS.cnt m.2.2.1 + hfInt64SSS.cnt m.2.2.2) ?_ rfl (.inr rfl) ?_
  · exact hfInt64SSS.afM m.2.2.2 (k + hfBoolSS.cnt m.2.2.1) (by omega) (by omega)
  simp +contextual -implicitDefEqProofs only [eCo, eG, eS, eI, D.at, D.sub, D.put, D.cells, D.size, D.sizeL, D.isAg, mrkCosts, go_sem, eB, ↓reduceIte, Nat.reduceEqDiff, Nat.reduceAdd, Nat.reduceLeDiff, Nat.reduceMul, Nat.reduceBEq, Nat.reduceBneDiff, Nat.reduceLT, Nat.reduceSub, decide_true, decide_false, and_self, true_and, and_true, false_and, and_false, not_true_eq_false, not_false_eq_true, false_implies, true_implies, implies_true, ge_iff_le, Bool.false_eq_true, List.cons_append, List.nil_append, Int.ofNat_lt, List.length_map, Int.natCast_nonneg]
  try simp only [Int.natCast_add, Int.add_assoc]
  try trivial
noncomputable def hfCosts : MFam Try.prog eCo szCosts tCosts 37 where
  mrk := mrkCosts
  cnt := cntCosts
  cnt_s m l h1 h2 h := by
    unfold szCosts at h ⊢
    unfold cntCosts
    obtain ⟨p0, h⟩ := nx_fit h
    rw [nx_pos (by omega)]
    have b0 := famBoolSS.s_in m.2.2.1 l (by omega) (by omega)
    have c0 := hfBoolSS.cnt_s m.2.2.1 l (by omega) (by omega) p0
    obtain ⟨p1, h⟩ := nx_fit h
    rw [nx_pos (by omega)]
    have b1 := famInt64SSS.s_in m.2.2.2 (famBoolSS.s m.2.2.1 l) (by omega) (by omega)
    have c1 := hfInt64SSS.cnt_s m.2.2.2 (famBoolSS.s m.2.2.1 l) (by omega) (by omega) p1
    push_cast
    omega
  cnt_t m := by unfold cntCosts tCosts; simp only [hfBoolSS.cnt_t, hfInt64SSS.cnt_t]
  afM := mk_Costs

noncomputable def hfExpr : MFam Try.prog eE famExpr.s famExpr.t 26 := mfE af26 (fun _ _ => rfl) (fun _ => rfl)
theorem costS_two (m : Co) (e : Ex) : ∃ n1 n2 l c, costS (some false) m e = ((n1, l), c) ∧ costS (some true) m e = ((n2, l), c) := by
  unfold costS
  split
  · exact ⟨_, _, _, _, rfl, rfl⟩
  · exact ⟨_, _, _, _, rfl, rfl⟩
theorem costS_cnt (z : Option Bool) (m : Co) (e : Ex) : hfInt64SS.cnt (costS z m e).1 ≤ 1000000 := by
  unfold costS
  split
  · next h =>
    obtain ⟨n, hM⟩ := okCo_k h.1
    have n8 := hM.n8
    have hn : m.2.1.toNat = n := by rw [hM.pts]; rfl
    rw [hn]
    have sq : Sm n (mTab n (costE m e)) := mTab_sq
    show cntL (fun x : SL Int => x.2.length) (mTab n (costE m e)).2 ≤ _
    have := cntL_bd (cnt := fun x : SL Int => x.2.length) (l := (mTab n (costE m e)).2) (c := 8) (fun x hx => by have := sq.row x hx; omega)
    have hl := sq.len
    omega
  · exact Nat.zero_le _
theorem law (m : Co) (e : Ex) : AF Try.prog 5 [eCo m, eE e] (.own (eB true)) := by
  rw [eE_eta e]
  refine af_of_res res5 mixed rfl fun hbd => ?_
  simp +contextual -implicitDefEqProofs only [rc5, eCo, eG, eS, eI, eB, famCosts_t, tCosts, famBoolSS_t, famInt64SS_t, famInt64SSS_t, famExpr_t, eE_eta, tE_k, tE_n, tE_nn, tE_ks, bne_self_eq_false, go_sem, ↓reduceIte, Nat.reduceEqDiff, Nat.reduceAdd, Nat.reduceLeDiff, Nat.reduceMul, Nat.reduceBEq, Nat.reduceBneDiff, Nat.reduceLT, Nat.reduceSub, decide_true, decide_false, and_self, true_and, and_true, false_and, and_false, not_true_eq_false, not_false_eq_true, false_implies, true_implies, implies_true, ge_iff_le, Bool.false_eq_true, List.cons_append, List.nil_append]
  refine callQ_self (ds := [eCo m, eI 1048576]) ?_ (famCosts.afS m 1048576 (by omega) (by omega)) ?_
  · simp only [eCo, eG, eS, eI, eB, famCosts_t, tCosts, famBoolSS_t, famInt64SS_t, famInt64SSS_t, famExpr_t, eE_eta, tE_k, tE_n, tE_nn, tE_ks, bne_self_eq_false]; exact rfl
  simp +contextual -implicitDefEqProofs only [eCo, eG, eS, eI, eB, famCosts_t, tCosts, famBoolSS_t, famInt64SS_t, famInt64SSS_t, famExpr_t, eE_eta, tE_k, tE_n, tE_nn, tE_ks, bne_self_eq_false, go_sem, ↓reduceIte, Nat.reduceEqDiff, Nat.reduceAdd, Nat.reduceLeDiff, Nat.reduceMul, Nat.reduceBEq, Nat.reduceBneDiff, Nat.reduceLT, Nat.reduceSub, decide_true, decide_false, and_self, true_and, and_true, false_and, and_false, not_true_eq_false, not_false_eq_true, false_implies, true_implies, implies_true, ge_iff_le, Bool.false_eq_true, List.cons_append, List.nil_append]
  have sb0 := famCosts.s_in m 1048576 (by omega) (by omega)
  refine fun hs0 => ?_
  have hf0 := famCosts.s_fit m 1048576 (by omega) (by omega) (by omega)
  refine callQ_self (ds := [eE e, eI (famCosts.s m 1048576)]) ?_ (famExpr.afS e (famCosts.s m 1048576) (by omega) (by omega)) ?_
  · simp only [eCo, eG, eS, eI, eB, famCosts_t, tCosts, famBoolSS_t, famInt64SS_t, famInt64SSS_t, famExpr_t, eE_eta, tE_k, tE_n, tE_nn, tE_ks, bne_self_eq_false]; exact rfl
  simp +contextual -implicitDefEqProofs only [eCo, eG, eS, eI, eB, famCosts_t, tCosts, famBoolSS_t, famInt64SS_t, famInt64SSS_t, famExpr_t, eE_eta, tE_k, tE_n, tE_nn, tE_ks, bne_self_eq_false, go_sem, ↓reduceIte, Nat.reduceEqDiff, Nat.reduceAdd, Nat.reduceLeDiff, Nat.reduceMul, Nat.reduceBEq, Nat.reduceBneDiff, Nat.reduceLT, Nat.reduceSub, decide_true, decide_false, and_self, true_and, and_true, false_and, and_false, not_true_eq_false, not_false_eq_true, false_implies, true_implies, implies_true, ge_iff_le, Bool.false_eq_true, List.cons_append, List.nil_append]
  have sb1 := famExpr.s_in e (famCosts.s m 1048576) (by omega) (by omega)
  refine fun hs1 => ?_
  have hf1 := famExpr.s_fit e (famCosts.s m 1048576) (by omega) (by omega) (by omega)
  refine callQ_self (ds := [eCo m]) ?_ (famCosts.afT m hf0) ?_
  · simp only [eCo, eG, eS, eI, eB, famCosts_t, tCosts, famBoolSS_t, famInt64SS_t, famInt64SSS_t, famExpr_t, eE_eta, tE_k, tE_n, tE_nn, tE_ks, bne_self_eq_false]; exact rfl
  simp +contextual -implicitDefEqProofs only [eCo, eG, eS, eI, eB, famCosts_t, tCosts, famBoolSS_t, famInt64SS_t, famInt64SSS_t, famExpr_t, eE_eta, tE_k, tE_n, tE_nn, tE_ks, bne_self_eq_false, go_sem, ↓reduceIte, Nat.reduceEqDiff, Nat.reduceAdd, Nat.reduceLeDiff, Nat.reduceMul, Nat.reduceBEq, Nat.reduceBneDiff, Nat.reduceLT, Nat.reduceSub, decide_true, decide_false, and_self, true_and, and_true, false_and, and_false, not_true_eq_false, not_false_eq_true, false_implies, true_implies, implies_true, ge_iff_le, Bool.false_eq_true, List.cons_append, List.nil_append]
  refine callQ_self (ds := [eE e]) ?_ (famExpr.afT e hf1) ?_
  · simp only [eCo, eG, eS, eI, eB, famCosts_t, tCosts, famBoolSS_t, famInt64SS_t, famInt64SSS_t, famExpr_t, eE_eta, tE_k, tE_n, tE_nn, tE_ks, bne_self_eq_false]; exact rfl
  simp +contextual -implicitDefEqProofs only [eCo, eG, eS, eI, eB, famCosts_t, tCosts, famBoolSS_t, famInt64SS_t, famInt64SSS_t, famExpr_t, eE_eta, tE_k, tE_n, tE_nn, tE_ks, bne_self_eq_false, go_sem, ↓reduceIte, Nat.reduceEqDiff, Nat.reduceAdd, Nat.reduceLeDiff, Nat.reduceMul, Nat.reduceBEq, Nat.reduceBneDiff, Nat.reduceLT, Nat.reduceSub, decide_true, decide_false, and_self, true_and, and_true, false_and, and_false, not_true_eq_false, not_false_eq_true, false_implies, true_implies, implies_true, ge_iff_le, Bool.false_eq_true, List.cons_append, List.nil_append]
  have hsp := af32 (famCosts.t m) (famExpr.t e)
  have him := af34 (famCosts.t m) (famExpr.t e)
  have hqM := famCosts.afQ (famCosts.t m) (famCosts.t m)
  rw [famCosts.q_refl] at hqM
  have hqE := famExpr.afQ (famExpr.t e) (famExpr.t e)
  rw [famExpr.q_refl] at hqE
  have hc0 : (hfCosts.cnt (famCosts.t m) : Int) ≤ 8388608 := by
    have h := hfCosts.cnt_s m 1048576 (by omega) (by omega) (Int.not_lt.1 hs0)
    have e : hfCosts.cnt (famCosts.t m) = hfCosts.cnt m := hfCosts.cnt_t m
    have h' : 0 ≤ szCosts m 1048576 := Int.not_lt.1 hs0
    rw [e]; omega
  have hcE : (hfExpr.cnt (famExpr.t e) : Int) ≤ 8388608 := by
    have h := hfExpr.cnt_s e (famCosts.s m 1048576) (by omega) (by omega) (Int.not_lt.1 hs1)
    have e : hfExpr.cnt (famExpr.t e) = hfExpr.cnt e := hfExpr.cnt_t e
    rw [e]; omega
  have hc1 := costS_cnt (some true) (famCosts.t m) (famExpr.t e)
  obtain ⟨n1, n2, l, c, e1, e2⟩ := costS_two (famCosts.t m) (famExpr.t e)
  rw [e1] at hsp
  rw [e2] at him hc1
  simp only at hsp him hc1
  have hqR := famInt64SS.afQ (n2, l) (n1, l)
  rw [show famInt64SS.q (n2, l) (n1, l) = true from famInt64SS.q_refl (n2, l)] at hqR
  have hM0 := hfCosts.afM (famCosts.t m) 1 (by omega) (by unfold maxK; omega)
  generalize hfCosts.cnt (famCosts.t m) = cT at hM0 hc0
  generalize hfCosts.mrk (famCosts.t m) 1 = mT at hM0
  have hME := hfExpr.afM (famExpr.t e) (1 + cT) (by omega) (by unfold maxK; omega)
  generalize hfExpr.cnt (famExpr.t e) = cE at hME hcE
  generalize hfExpr.mrk (famExpr.t e) (1 + cT) = mE at hME
  obtain ⟨xk, xv, xn, xs, rfl⟩ := Ex.ex mE
  rw [eE_eta (famExpr.t e), eE_mk] at hME
  simp only [famExpr_t, tE_k, tE_n, tE_nn, tE_ks] at hME
  have hM1 := hfInt64SS.afM (n2, l) 1 (by omega) (by unfold maxK; omega)
  have hH1 := hfInt64SS.afH (n2, l) 1 (by omega) (by unfold maxK; omega)
  generalize hfInt64SS.cnt (n2, l) = cR at hM1 hH1 hc1
  generalize hfInt64SS.mrk (n2, l) 1 = mR at hM1 hH1
  have hk0 : ¬ (1 + (cT : Int) + (cE : Int) < 0) := by omega
  have hk1 : ¬ (1 + (cR : Int) < 0) := by omega
  refine callQ_self (ds := [eCo (famCosts.t m), eE (famExpr.t e)]) ?_ (hsp) ?_
  · simp only [eCo, eG, eS, eI, eB, famCosts_t, tCosts, famBoolSS_t, famInt64SS_t, famInt64SSS_t, famExpr_t, eE_eta, tE_k, tE_n, tE_nn, tE_ks, bne_self_eq_false]; exact rfl
  simp +contextual -implicitDefEqProofs only [eCo, eG, eS, eI, eB, famCosts_t, tCosts, famBoolSS_t, famInt64SS_t, famInt64SSS_t, famExpr_t, eE_eta, tE_k, tE_n, tE_nn, tE_ks, bne_self_eq_false, go_sem, ↓reduceIte, Nat.reduceEqDiff, Nat.reduceAdd, Nat.reduceLeDiff, Nat.reduceMul, Nat.reduceBEq, Nat.reduceBneDiff, Nat.reduceLT, Nat.reduceSub, decide_true, decide_false, and_self, true_and, and_true, false_and, and_false, not_true_eq_false, not_false_eq_true, false_implies, true_implies, implies_true, ge_iff_le, Bool.false_eq_true, List.cons_append, List.nil_append]
  refine callQ_self (ds := [eCo m]) ?_ (famCosts.afT m hf0) ?_
  · simp only [eCo, eG, eS, eI, eB, famCosts_t, tCosts, famBoolSS_t, famInt64SS_t, famInt64SSS_t, famExpr_t, eE_eta, tE_k, tE_n, tE_nn, tE_ks, bne_self_eq_false]; exact rfl
  simp +contextual -implicitDefEqProofs only [eCo, eG, eS, eI, eB, famCosts_t, tCosts, famBoolSS_t, famInt64SS_t, famInt64SSS_t, famExpr_t, eE_eta, tE_k, tE_n, tE_nn, tE_ks, bne_self_eq_false, go_sem, ↓reduceIte, Nat.reduceEqDiff, Nat.reduceAdd, Nat.reduceLeDiff, Nat.reduceMul, Nat.reduceBEq, Nat.reduceBneDiff, Nat.reduceLT, Nat.reduceSub, decide_true, decide_false, and_self, true_and, and_true, false_and, and_false, not_true_eq_false, not_false_eq_true, false_implies, true_implies, implies_true, ge_iff_le, Bool.false_eq_true, List.cons_append, List.nil_append]
  refine callQ_self (ds := [eE e]) ?_ (famExpr.afT e hf1) ?_
  · simp only [eCo, eG, eS, eI, eB, famCosts_t, tCosts, famBoolSS_t, famInt64SS_t, famInt64SSS_t, famExpr_t, eE_eta, tE_k, tE_n, tE_nn, tE_ks, bne_self_eq_false]; exact rfl
  simp +contextual -implicitDefEqProofs only [eCo, eG, eS, eI, eB, famCosts_t, tCosts, famBoolSS_t, famInt64SS_t, famInt64SSS_t, famExpr_t, eE_eta, tE_k, tE_n, tE_nn, tE_ks, bne_self_eq_false, go_sem, ↓reduceIte, Nat.reduceEqDiff, Nat.reduceAdd, Nat.reduceLeDiff, Nat.reduceMul, Nat.reduceBEq, Nat.reduceBneDiff, Nat.reduceLT, Nat.reduceSub, decide_true, decide_false, and_self, true_and, and_true, false_and, and_false, not_true_eq_false, not_false_eq_true, false_implies, true_implies, implies_true, ge_iff_le, Bool.false_eq_true, List.cons_append, List.nil_append]
  refine callQ_self (ds := [eCo (famCosts.t m), eE (famExpr.t e)]) ?_ (him) ?_
  · simp only [eCo, eG, eS, eI, eB, famCosts_t, tCosts, famBoolSS_t, famInt64SS_t, famInt64SSS_t, famExpr_t, eE_eta, tE_k, tE_n, tE_nn, tE_ks, bne_self_eq_false]; exact rfl
  simp +contextual -implicitDefEqProofs only [eCo, eG, eS, eI, eB, famCosts_t, tCosts, famBoolSS_t, famInt64SS_t, famInt64SSS_t, famExpr_t, eE_eta, tE_k, tE_n, tE_nn, tE_ks, bne_self_eq_false, go_sem, ↓reduceIte, Nat.reduceEqDiff, Nat.reduceAdd, Nat.reduceLeDiff, Nat.reduceMul, Nat.reduceBEq, Nat.reduceBneDiff, Nat.reduceLT, Nat.reduceSub, decide_true, decide_false, and_self, true_and, and_true, false_and, and_false, not_true_eq_false, not_false_eq_true, false_implies, true_implies, implies_true, ge_iff_le, Bool.false_eq_true, List.cons_append, List.nil_append]
  refine callQ_self (ds := [eS 1 (eS 1 eI) (n2, l), eS 1 (eS 1 eI) (n1, l)]) ?_ (hqR) ?_
  · simp only [eCo, eG, eS, eI, eB, famCosts_t, tCosts, famBoolSS_t, famInt64SS_t, famInt64SSS_t, famExpr_t, eE_eta, tE_k, tE_n, tE_nn, tE_ks, bne_self_eq_false]; exact rfl
  simp +contextual -implicitDefEqProofs only [Bool.not_true, eCo, eG, eS, eI, eB, famCosts_t, tCosts, famBoolSS_t, famInt64SS_t, famInt64SSS_t, famExpr_t, eE_eta, tE_k, tE_n, tE_nn, tE_ks, bne_self_eq_false, go_sem, ↓reduceIte, Nat.reduceEqDiff, Nat.reduceAdd, Nat.reduceLeDiff, Nat.reduceMul, Nat.reduceBEq, Nat.reduceBneDiff, Nat.reduceLT, Nat.reduceSub, decide_true, decide_false, and_self, true_and, and_true, false_and, and_false, not_true_eq_false, not_false_eq_true, false_implies, true_implies, implies_true, ge_iff_le, Bool.false_eq_true, List.cons_append, List.nil_append]
  refine callQ_self (ds := [eCo m]) ?_ (famCosts.afT m hf0) ?_
  · simp only [eCo, eG, eS, eI, eB, famCosts_t, tCosts, famBoolSS_t, famInt64SS_t, famInt64SSS_t, famExpr_t, eE_eta, tE_k, tE_n, tE_nn, tE_ks, bne_self_eq_false]; exact rfl
  simp +contextual -implicitDefEqProofs only [eCo, eG, eS, eI, eB, famCosts_t, tCosts, famBoolSS_t, famInt64SS_t, famInt64SSS_t, famExpr_t, eE_eta, tE_k, tE_n, tE_nn, tE_ks, bne_self_eq_false, go_sem, ↓reduceIte, Nat.reduceEqDiff, Nat.reduceAdd, Nat.reduceLeDiff, Nat.reduceMul, Nat.reduceBEq, Nat.reduceBneDiff, Nat.reduceLT, Nat.reduceSub, decide_true, decide_false, and_self, true_and, and_true, false_and, and_false, not_true_eq_false, not_false_eq_true, false_implies, true_implies, implies_true, ge_iff_le, Bool.false_eq_true, List.cons_append, List.nil_append]
  refine callQ_self (ds := [eCo (famCosts.t m), eCo (famCosts.t m)]) ?_ (hqM) ?_
  · simp only [eCo, eG, eS, eI, eB, famCosts_t, tCosts, famBoolSS_t, famInt64SS_t, famInt64SSS_t, famExpr_t, eE_eta, tE_k, tE_n, tE_nn, tE_ks, bne_self_eq_false]; exact rfl
  simp +contextual -implicitDefEqProofs only [Bool.not_true, eCo, eG, eS, eI, eB, famCosts_t, tCosts, famBoolSS_t, famInt64SS_t, famInt64SSS_t, famExpr_t, eE_eta, tE_k, tE_n, tE_nn, tE_ks, bne_self_eq_false, go_sem, ↓reduceIte, Nat.reduceEqDiff, Nat.reduceAdd, Nat.reduceLeDiff, Nat.reduceMul, Nat.reduceBEq, Nat.reduceBneDiff, Nat.reduceLT, Nat.reduceSub, decide_true, decide_false, and_self, true_and, and_true, false_and, and_false, not_true_eq_false, not_false_eq_true, false_implies, true_implies, implies_true, ge_iff_le, Bool.false_eq_true, List.cons_append, List.nil_append]
  refine callQ_self (ds := [eE e]) ?_ (famExpr.afT e hf1) ?_
  · simp only [eCo, eG, eS, eI, eB, famCosts_t, tCosts, famBoolSS_t, famInt64SS_t, famInt64SSS_t, famExpr_t, eE_eta, tE_k, tE_n, tE_nn, tE_ks, bne_self_eq_false]; exact rfl
  simp +contextual -implicitDefEqProofs only [eCo, eG, eS, eI, eB, famCosts_t, tCosts, famBoolSS_t, famInt64SS_t, famInt64SSS_t, famExpr_t, eE_eta, tE_k, tE_n, tE_nn, tE_ks, bne_self_eq_false, go_sem, ↓reduceIte, Nat.reduceEqDiff, Nat.reduceAdd, Nat.reduceLeDiff, Nat.reduceMul, Nat.reduceBEq, Nat.reduceBneDiff, Nat.reduceLT, Nat.reduceSub, decide_true, decide_false, and_self, true_and, and_true, false_and, and_false, not_true_eq_false, not_false_eq_true, false_implies, true_implies, implies_true, ge_iff_le, Bool.false_eq_true, List.cons_append, List.nil_append]
  refine callQ_self (ds := [eE (famExpr.t e), eE (famExpr.t e)]) ?_ (hqE) ?_
  · simp only [eCo, eG, eS, eI, eB, famCosts_t, tCosts, famBoolSS_t, famInt64SS_t, famInt64SSS_t, famExpr_t, eE_eta, tE_k, tE_n, tE_nn, tE_ks, bne_self_eq_false]; exact rfl
  simp +contextual -implicitDefEqProofs only [Bool.not_true, eCo, eG, eS, eI, eB, famCosts_t, tCosts, famBoolSS_t, famInt64SS_t, famInt64SSS_t, famExpr_t, eE_eta, tE_k, tE_n, tE_nn, tE_ks, bne_self_eq_false, go_sem, ↓reduceIte, Nat.reduceEqDiff, Nat.reduceAdd, Nat.reduceLeDiff, Nat.reduceMul, Nat.reduceBEq, Nat.reduceBneDiff, Nat.reduceLT, Nat.reduceSub, decide_true, decide_false, and_self, true_and, and_true, false_and, and_false, not_true_eq_false, not_false_eq_true, false_implies, true_implies, implies_true, ge_iff_le, Bool.false_eq_true, List.cons_append, List.nil_append]
  refine ⟨eCo mT, 1 + cT, hM0, ⟨rfl, fun _ => rfl, rfl⟩, ?_⟩
  simp +contextual -implicitDefEqProofs only [D.put, D.cells, D.size, D.sizeL, D.isAg, D.at, D.sub, eCo, eG, eS, eI, eB, famCosts_t, tCosts, famBoolSS_t, famInt64SS_t, famInt64SSS_t, famExpr_t, eE_eta, tE_k, tE_n, tE_nn, tE_ks, bne_self_eq_false, go_sem, ↓reduceIte, Nat.reduceEqDiff, Nat.reduceAdd, Nat.reduceLeDiff, Nat.reduceMul, Nat.reduceBEq, Nat.reduceBneDiff, Nat.reduceLT, Nat.reduceSub, decide_true, decide_false, and_self, true_and, and_true, false_and, and_false, not_true_eq_false, not_false_eq_true, false_implies, true_implies, implies_true, ge_iff_le, Bool.false_eq_true, List.cons_append, List.nil_append]
  refine ⟨.ag [.sc (.int .i64 xk), .sc (.int .i64 xv), .ls xn 3 (xs.map eE)], 1 + cT + cE, hME, ⟨rfl, fun _ => rfl, rfl⟩, ?_⟩
  simp +contextual -implicitDefEqProofs only [hk0, D.put, D.cells, D.size, D.sizeL, D.isAg, D.at, D.sub, eCo, eG, eS, eI, eB, famCosts_t, tCosts, famBoolSS_t, famInt64SS_t, famInt64SSS_t, famExpr_t, eE_eta, tE_k, tE_n, tE_nn, tE_ks, bne_self_eq_false, go_sem, ↓reduceIte, Nat.reduceEqDiff, Nat.reduceAdd, Nat.reduceLeDiff, Nat.reduceMul, Nat.reduceBEq, Nat.reduceBneDiff, Nat.reduceLT, Nat.reduceSub, decide_true, decide_false, and_self, true_and, and_true, false_and, and_false, not_true_eq_false, not_false_eq_true, false_implies, true_implies, implies_true, ge_iff_le, Bool.false_eq_true, List.cons_append, List.nil_append]
  refine callQ_self (ds := [eS 1 (eS 1 eI) (n2, l), eS 1 (eS 1 eI) (n1, l)]) ?_ (hqR) ?_
  · simp only [eCo, eG, eS, eI, eB, famCosts_t, tCosts, famBoolSS_t, famInt64SS_t, famInt64SSS_t, famExpr_t, eE_eta, tE_k, tE_n, tE_nn, tE_ks, bne_self_eq_false]; exact rfl
  simp +contextual -implicitDefEqProofs only [Bool.not_true, eCo, eG, eS, eI, eB, famCosts_t, tCosts, famBoolSS_t, famInt64SS_t, famInt64SSS_t, famExpr_t, eE_eta, tE_k, tE_n, tE_nn, tE_ks, bne_self_eq_false, go_sem, ↓reduceIte, Nat.reduceEqDiff, Nat.reduceAdd, Nat.reduceLeDiff, Nat.reduceMul, Nat.reduceBEq, Nat.reduceBneDiff, Nat.reduceLT, Nat.reduceSub, decide_true, decide_false, and_self, true_and, and_true, false_and, and_false, not_true_eq_false, not_false_eq_true, false_implies, true_implies, implies_true, ge_iff_le, Bool.false_eq_true, List.cons_append, List.nil_append]
  refine ⟨eS 1 (eS 1 eI) mR, 1 + cR, hM1, rfl, ?_⟩
  simp +contextual -implicitDefEqProofs only [D.put, D.cells, D.size, D.sizeL, D.isAg, D.at, D.sub, eCo, eG, eS, eI, eB, famCosts_t, tCosts, famBoolSS_t, famInt64SS_t, famInt64SSS_t, famExpr_t, eE_eta, tE_k, tE_n, tE_nn, tE_ks, bne_self_eq_false, go_sem, ↓reduceIte, Nat.reduceEqDiff, Nat.reduceAdd, Nat.reduceLeDiff, Nat.reduceMul, Nat.reduceBEq, Nat.reduceBneDiff, Nat.reduceLT, Nat.reduceSub, decide_true, decide_false, and_self, true_and, and_true, false_and, and_false, not_true_eq_false, not_false_eq_true, false_implies, true_implies, implies_true, ge_iff_le, Bool.false_eq_true, List.cons_append, List.nil_append]
  refine callQ_self (ds := [eS 1 (eS 1 eI) mR, eI 1]) ?_ (hH1) ?_
  · simp only [eCo, eG, eS, eI, eB, famCosts_t, tCosts, famBoolSS_t, famInt64SS_t, famInt64SSS_t, famExpr_t, eE_eta, tE_k, tE_n, tE_nn, tE_ks, bne_self_eq_false]; exact rfl
  simp +contextual -implicitDefEqProofs only [hk1, eCo, eG, eS, eI, eB, famCosts_t, tCosts, famBoolSS_t, famInt64SS_t, famInt64SSS_t, famExpr_t, eE_eta, tE_k, tE_n, tE_nn, tE_ks, bne_self_eq_false, go_sem, ↓reduceIte, Nat.reduceEqDiff, Nat.reduceAdd, Nat.reduceLeDiff, Nat.reduceMul, Nat.reduceBEq, Nat.reduceBneDiff, Nat.reduceLT, Nat.reduceSub, decide_true, decide_false, and_self, true_and, and_true, false_and, and_false, not_true_eq_false, not_false_eq_true, false_implies, true_implies, implies_true, ge_iff_le, Bool.false_eq_true, List.cons_append, List.nil_append]
  refine callQ_self (ds := [eCo m]) ?_ (famCosts.afT m hf0) ?_
  · simp only [eCo, eG, eS, eI, eB, famCosts_t, tCosts, famBoolSS_t, famInt64SS_t, famInt64SSS_t, famExpr_t, eE_eta, tE_k, tE_n, tE_nn, tE_ks, bne_self_eq_false]; exact rfl
  simp +contextual -implicitDefEqProofs only [eCo, eG, eS, eI, eB, famCosts_t, tCosts, famBoolSS_t, famInt64SS_t, famInt64SSS_t, famExpr_t, eE_eta, tE_k, tE_n, tE_nn, tE_ks, bne_self_eq_false, go_sem, ↓reduceIte, Nat.reduceEqDiff, Nat.reduceAdd, Nat.reduceLeDiff, Nat.reduceMul, Nat.reduceBEq, Nat.reduceBneDiff, Nat.reduceLT, Nat.reduceSub, decide_true, decide_false, and_self, true_and, and_true, false_and, and_false, not_true_eq_false, not_false_eq_true, false_implies, true_implies, implies_true, ge_iff_le, Bool.false_eq_true, List.cons_append, List.nil_append]
  refine callQ_self (ds := [eE e]) ?_ (famExpr.afT e hf1) ?_
  · simp only [eCo, eG, eS, eI, eB, famCosts_t, tCosts, famBoolSS_t, famInt64SS_t, famInt64SSS_t, famExpr_t, eE_eta, tE_k, tE_n, tE_nn, tE_ks, bne_self_eq_false]; exact rfl
  simp +contextual -implicitDefEqProofs only [eCo, eG, eS, eI, eB, famCosts_t, tCosts, famBoolSS_t, famInt64SS_t, famInt64SSS_t, famExpr_t, eE_eta, tE_k, tE_n, tE_nn, tE_ks, bne_self_eq_false, go_sem, ↓reduceIte, Nat.reduceEqDiff, Nat.reduceAdd, Nat.reduceLeDiff, Nat.reduceMul, Nat.reduceBEq, Nat.reduceBneDiff, Nat.reduceLT, Nat.reduceSub, decide_true, decide_false, and_self, true_and, and_true, false_and, and_false, not_true_eq_false, not_false_eq_true, false_implies, true_implies, implies_true, ge_iff_le, Bool.false_eq_true, List.cons_append, List.nil_append]
  refine callQ_self (ds := [eCo (famCosts.t m), eE (famExpr.t e)]) ?_ (him) ?_
  · simp only [eCo, eG, eS, eI, eB, famCosts_t, tCosts, famBoolSS_t, famInt64SS_t, famInt64SSS_t, famExpr_t, eE_eta, tE_k, tE_n, tE_nn, tE_ks, bne_self_eq_false]; exact rfl
  simp +contextual -implicitDefEqProofs only [eCo, eG, eS, eI, eB, famCosts_t, tCosts, famBoolSS_t, famInt64SS_t, famInt64SSS_t, famExpr_t, eE_eta, tE_k, tE_n, tE_nn, tE_ks, bne_self_eq_false, go_sem, ↓reduceIte, Nat.reduceEqDiff, Nat.reduceAdd, Nat.reduceLeDiff, Nat.reduceMul, Nat.reduceBEq, Nat.reduceBneDiff, Nat.reduceLT, Nat.reduceSub, decide_true, decide_false, and_self, true_and, and_true, false_and, and_false, not_true_eq_false, not_false_eq_true, false_implies, true_implies, implies_true, ge_iff_le, Bool.false_eq_true, List.cons_append, List.nil_append]
  refine callQ_self (ds := [eS 1 (eS 1 eI) (n2, l), eS 1 (eS 1 eI) (n1, l)]) ?_ (hqR) ?_
  · simp only [eCo, eG, eS, eI, eB, famCosts_t, tCosts, famBoolSS_t, famInt64SS_t, famInt64SSS_t, famExpr_t, eE_eta, tE_k, tE_n, tE_nn, tE_ks, bne_self_eq_false]; exact rfl
  simp +contextual -implicitDefEqProofs only [Bool.not_true, eCo, eG, eS, eI, eB, famCosts_t, tCosts, famBoolSS_t, famInt64SS_t, famInt64SSS_t, famExpr_t, eE_eta, tE_k, tE_n, tE_nn, tE_ks, bne_self_eq_false, go_sem, ↓reduceIte, Nat.reduceEqDiff, Nat.reduceAdd, Nat.reduceLeDiff, Nat.reduceMul, Nat.reduceBEq, Nat.reduceBneDiff, Nat.reduceLT, Nat.reduceSub, decide_true, decide_false, and_self, true_and, and_true, false_and, and_false, not_true_eq_false, not_false_eq_true, false_implies, true_implies, implies_true, ge_iff_le, Bool.false_eq_true, List.cons_append, List.nil_append]
  refine callQ_self (ds := [eS 1 (eS 1 eI) mR, eI 1]) ?_ (hH1) ?_
  · simp only [eCo, eG, eS, eI, eB, famCosts_t, tCosts, famBoolSS_t, famInt64SS_t, famInt64SSS_t, famExpr_t, eE_eta, tE_k, tE_n, tE_nn, tE_ks, bne_self_eq_false]; exact rfl
  simp +contextual -implicitDefEqProofs only [hk1, eCo, eG, eS, eI, eB, famCosts_t, tCosts, famBoolSS_t, famInt64SS_t, famInt64SSS_t, famExpr_t, eE_eta, tE_k, tE_n, tE_nn, tE_ks, bne_self_eq_false, go_sem, ↓reduceIte, Nat.reduceEqDiff, Nat.reduceAdd, Nat.reduceLeDiff, Nat.reduceMul, Nat.reduceBEq, Nat.reduceBneDiff, Nat.reduceLT, Nat.reduceSub, decide_true, decide_false, and_self, true_and, and_true, false_and, and_false, not_true_eq_false, not_false_eq_true, false_implies, true_implies, implies_true, ge_iff_le, Bool.false_eq_true, List.cons_append, List.nil_append]
end Go.Ax
