/- Contracts of functions of the seat, proved over the engine. No condition. -/
import Derived.Test.YthcgldjelbmjgaaX55
import Derived.Test.YthcgldjelbmjgaaChecked
set_option linter.unusedSimpArgs false
set_option linter.unusedVariables false
set_option linter.unnecessarySimpa false
namespace Go.Ax
open Go.Proofs
set_option linter.unusedSimpArgs false
theorem mixed : Try.prog.follows .mixedOrders = true := by kernel_rfl
theorem res169 : resF Try.prog 169 = some (12, cSzP, [.t 4]) := by kernel_rfl
theorem res85 : resF Try.prog 85 = some (27, cSzC 169 1 false, [.t 4]) := by kernel_rfl
theorem res127 : resF Try.prog 127 = some (12, cSzP, [.t 4]) := by kernel_rfl
theorem res185 : resF Try.prog 185 = some (27, cSzC 127 1 false, [.t 4]) := by kernel_rfl
theorem res108 : resF Try.prog 108 = some (27, cSzC 185 1 false, [.t 4]) := by kernel_rfl

def rc31 : RC := (.seq (.reg false [⟨none, .box 2 5 (.t 0)⟩, ⟨none, .mv 4 (.c (.sc (.int .i64 0)))⟩]) ((.seq (.reg false [⟨none, .fa 5 3 (.t 2)⟩, ⟨none, .ld 6 false 1 (.t 5)⟩, ⟨none, .mv 7 (.t 1)⟩, ⟨none, .call (some 8) 85 [(.t 6), (.t 7)]⟩, ⟨none, .mv 1 (.t 8)⟩]) ((.seq ((.seq (.reg false [⟨none, .mv 9 (.t 1)⟩, ⟨none, .bin 10 .lss (.t 9) (.c (.sc (.int .i64 0)))⟩]) (.cond (.t 10) ((.seq (.reg false [⟨none, .mv 4 (.c (.sc (.int .i64 (-1))))⟩]) (.ret))) (.skip)))) ((.seq (.reg false [⟨none, .fa 11 4 (.t 2)⟩, ⟨none, .ld 12 false 1 (.t 11)⟩, ⟨none, .mv 13 (.t 1)⟩, ⟨none, .call (some 14) 108 [(.t 12), (.t 13)]⟩, ⟨none, .mv 1 (.t 14)⟩]) ((.seq ((.seq (.reg false [⟨none, .mv 15 (.t 1)⟩, ⟨none, .bin 16 .lss (.t 15) (.c (.sc (.int .i64 0)))⟩]) (.cond (.t 16) ((.seq (.reg false [⟨none, .mv 4 (.c (.sc (.int .i64 (-1))))⟩]) (.ret))) (.skip)))) ((.seq (.reg false [⟨none, .mv 17 (.t 1)⟩, ⟨none, .mv 4 (.t 17)⟩]) (.ret))))))))))))
theorem res31 : resF Try.prog 31 = some (18, rc31, [.t 4]) := by kernel_rfl
theorem res87 : resF Try.prog 87 = some (27, cSzC 16 3 true, [.t 4]) := by kernel_rfl
theorem res16 : resF Try.prog 16 = some (12, k_szExpr 87, [.t 4]) := by kernel_rfl

def rc40 : RC := (.seq (.reg false [⟨none, .box 2 6 (.t 0)⟩, ⟨none, .mv 4 (.c (.sc (.int .i64 0)))⟩]) ((.seq (.reg false [⟨none, .fa 5 0 (.t 2)⟩, ⟨none, .ld 6 true 3 (.t 5)⟩, ⟨none, .mv 7 (.t 1)⟩, ⟨none, .call (some 8) 16 [(.t 6), (.t 7)]⟩, ⟨none, .mv 1 (.t 8)⟩]) ((.seq ((.seq (.reg false [⟨none, .mv 9 (.t 1)⟩, ⟨none, .bin 10 .lss (.t 9) (.c (.sc (.int .i64 0)))⟩]) (.cond (.t 10) ((.seq (.reg false [⟨none, .mv 4 (.c (.sc (.int .i64 (-1))))⟩]) (.ret))) (.skip)))) ((.seq (.reg false [⟨none, .fa 11 3 (.t 2)⟩, ⟨none, .ld 12 true 3 (.t 11)⟩, ⟨none, .mv 13 (.t 1)⟩, ⟨none, .call (some 14) 16 [(.t 12), (.t 13)]⟩, ⟨none, .mv 1 (.t 14)⟩]) ((.seq ((.seq (.reg false [⟨none, .mv 15 (.t 1)⟩, ⟨none, .bin 16 .lss (.t 15) (.c (.sc (.int .i64 0)))⟩]) (.cond (.t 16) ((.seq (.reg false [⟨none, .mv 4 (.c (.sc (.int .i64 (-1))))⟩]) (.ret))) (.skip)))) ((.seq (.reg false [⟨none, .mv 17 (.t 1)⟩, ⟨none, .mv 4 (.t 17)⟩]) (.ret))))))))))))
theorem res40 : resF Try.prog 40 = some (18, rc40, [.t 4]) := by kernel_rfl
theorem res50 : resF Try.prog 50 = some (11, k_toSig, [.c 2 2 true]) := by kernel_rfl
theorem af50 : K_toSig Try.prog 50 := a_toSig mixed res50
theorem res172 : resF Try.prog 172 = some (22, cToS 1 (.sc (.bool false)), [.t 2]) := by kernel_rfl
theorem res90 : resF Try.prog 90 = some (23, cToC 172 1 24 false (.ls (some true) 1 []), [.t 2]) := by kernel_rfl
theorem res20 : resF Try.prog 20 = some (22, cToS 8 (.sc (.int .i64 0)), [.t 2]) := by kernel_rfl
theorem res194 : resF Try.prog 194 = some (23, cToC 20 1 24 false (.ls (some true) 1 []), [.t 2]) := by kernel_rfl
theorem res112 : resF Try.prog 112 = some (23, cToC 194 1 24 false (.ls (some true) 1 []), [.t 2]) := by kernel_rfl

def rc33 : RC := (.seq (.reg false [⟨none, .box 1 5 (.t 0)⟩, ⟨none, .zer 2 5 (.ag [(.sc (.int .i64 0)), (.sc (.int .i64 0)), (.sc (.int .i64 0)), (.ls (some true) 1 []), (.ls (some true) 1 [])])⟩]) ((.seq (.reg false [⟨none, .zer 3 5 (.ag [(.sc (.int .i64 0)), (.sc (.int .i64 0)), (.sc (.int .i64 0)), (.ls (some true) 1 []), (.ls (some true) 1 [])])⟩]) ((.seq (.reg false [⟨none, .fa 4 0 (.t 1)⟩, ⟨none, .ld 5 true 2 (.t 4)⟩, ⟨none, .call (some 6) 50 [(.t 5)]⟩, ⟨none, .fa 7 0 (.t 3)⟩, ⟨none, .st 2 (.t 7) (.t 6)⟩]) ((.seq (.reg false [⟨none, .fa 8 2 (.t 1)⟩, ⟨none, .ld 9 false 1 (.t 8)⟩, ⟨none, .fa 10 2 (.t 3)⟩, ⟨none, .st 1 (.t 10) (.t 9)⟩]) ((.seq (.reg false [⟨none, .fa 11 3 (.t 1)⟩, ⟨none, .ld 12 false 1 (.t 11)⟩, ⟨none, .call (some 13) 90 [(.t 12)]⟩, ⟨none, .fa 14 3 (.t 3)⟩, ⟨none, .st 1 (.t 14) (.t 13)⟩]) ((.seq (.reg false [⟨none, .fa 15 4 (.t 1)⟩, ⟨none, .ld 16 false 1 (.t 15)⟩, ⟨none, .call (some 17) 112 [(.t 16)]⟩, ⟨none, .fa 18 4 (.t 3)⟩, ⟨none, .st 1 (.t 18) (.t 17)⟩]) ((.seq (.reg false [⟨none, .ld 19 true 5 (.t 3)⟩, ⟨none, .st 5 (.t 2) (.t 19)⟩]) (.ret))))))))))))))
theorem res33 : resF Try.prog 33 = some (20, rc33, [.c 2 5 true]) := by kernel_rfl
theorem res92 : resF Try.prog 92 = some (23, cToC 19 3 40 true (.ag [(.sc (.int .i64 0)), (.sc (.int .i64 0)), (.ls (some true) 3 [])]), [.t 2]) := by kernel_rfl
theorem res19 : resF Try.prog 19 = some (15, k_toExpr 92, [.c 2 3 true]) := by kernel_rfl

def rc42 : RC := (.seq (.reg false [⟨none, .box 1 6 (.t 0)⟩, ⟨none, .zer 2 6 (.ag [(.sc (.int .i64 0)), (.sc (.int .i64 0)), (.ls (some true) 3 []), (.sc (.int .i64 0)), (.sc (.int .i64 0)), (.ls (some true) 3 [])])⟩]) ((.seq (.reg false [⟨none, .zer 3 6 (.ag [(.sc (.int .i64 0)), (.sc (.int .i64 0)), (.ls (some true) 3 []), (.sc (.int .i64 0)), (.sc (.int .i64 0)), (.ls (some true) 3 [])])⟩]) ((.seq (.reg false [⟨none, .fa 4 0 (.t 1)⟩, ⟨none, .ld 5 true 3 (.t 4)⟩, ⟨none, .call (some 6) 19 [(.t 5)]⟩, ⟨none, .fa 7 0 (.t 3)⟩, ⟨none, .st 3 (.t 7) (.t 6)⟩]) ((.seq (.reg false [⟨none, .fa 8 3 (.t 1)⟩, ⟨none, .ld 9 true 3 (.t 8)⟩, ⟨none, .call (some 10) 19 [(.t 9)]⟩, ⟨none, .fa 11 3 (.t 3)⟩, ⟨none, .st 3 (.t 11) (.t 10)⟩]) ((.seq (.reg false [⟨none, .ld 12 true 6 (.t 3)⟩, ⟨none, .st 6 (.t 2) (.t 12)⟩]) (.ret))))))))))
theorem res42 : resF Try.prog 42 = some (13, rc42, [.c 2 6 true]) := by kernel_rfl
theorem res159 : resF Try.prog 159 = some (15, k_l00In, [.t 6]) := by kernel_rfl
theorem af159 : K_l00In Try.prog 159 := a_l00In mixed res159
theorem res148 : resF Try.prog 148 = some (11, k_l01Sig 159, [.t 2]) := by kernel_rfl
theorem af148 : K_l01Sig Try.prog 148 := a_l01Sig mixed res148 af159
theorem res186 : resF Try.prog 186 = some (36, k_l05Tests 148 159, [.t 6]) := by kernel_rfl
theorem af186 : K_l05Tests Try.prog 186 := a_l05Tests mixed res186 af148 af159
theorem res109 : resF Try.prog 109 = some (113, k_l05CostsOk 186 159, [.t 2]) := by kernel_rfl
theorem af109 : K_l05CostsOk Try.prog 109 := a_l05CostsOk mixed res109 af186 af159
theorem res187 : resF Try.prog 187 = some (30, k_l01Left 187, [.t 4]) := by kernel_rfl
theorem af187 : K_l01Left Try.prog 187 := a_l01Left mixed res187
theorem res239 : resF Try.prog 239 = some (10, k_l00Max, [.t 4]) := by kernel_rfl
theorem af239 : K_l00Max Try.prog 239 := a_l00Max mixed res239
theorem res188 : resF Try.prog 188 = some (25, k_l01Depth 188 239, [.t 2]) := by kernel_rfl
theorem af188 : K_l01Depth Try.prog 188 := a_l01Depth mixed res188 af239
theorem res240 : resF Try.prog 240 = some (15, k_l01Kids, [.t 2]) := by kernel_rfl
theorem af240 : K_l01Kids Try.prog 240 := a_l01Kids mixed res240
theorem res241 : resF Try.prog 241 = some (34, k_l01Condition 241 159, [.t 2]) := by kernel_rfl
theorem af241 : K_l01Condition Try.prog 241 := a_l01Condition mixed res241 af159
theorem res189 : resF Try.prog 189 = some (80, k_l01Tree 189 240 159 241, [.t 4]) := by kernel_rfl
theorem af189 : K_l01Tree Try.prog 189 := a_l01Tree mixed res189 af240 af159 af241
theorem res110 : resF Try.prog 110 = some (22, k_l01Ok 148 187 188 189, [.t 4]) := by kernel_rfl
theorem af110 : K_l01Ok Try.prog 110 := a_l01Ok mixed res110 af148 af187 af188 af189
theorem res116 : resF Try.prog 116 = some (17, k_l04Equation 110, [.t 4]) := by kernel_rfl
theorem af116 : K_l04Equation Try.prog 116 := a_l04Equation mixed res116 af110
theorem res190 : resF Try.prog 190 = some (27, k_l05FarAll, [.t 2]) := by kernel_rfl
theorem af190 : K_l05FarAll Try.prog 190 := a_l05FarAll mixed res190
theorem res191 : resF Try.prog 191 = some (18, k_l05Cheaper, [.t 4]) := by kernel_rfl
theorem af191 : K_l05Cheaper Try.prog 191 := a_l05Cheaper mixed res191
theorem res242 : resF Try.prog 242 = some (20, k_l05Plus, [.t 4]) := by kernel_rfl
theorem af242 : K_l05Plus Try.prog 242 := a_l05Plus mixed res242
theorem res192 : resF Try.prog 192 = some (59, k_l05CostDot 190 242 191, [.t 4]) := by kernel_rfl
theorem af192 : K_l05CostDot Try.prog 192 := a_l05CostDot mixed res192 af190 af242 af191
theorem res193 : resF Try.prog 193 = some (78, k_l05CostStar 190 242 191, [.t 2]) := by kernel_rfl
theorem af193 : K_l05CostStar Try.prog 193 := a_l05CostStar mixed res193 af190 af242 af191
theorem res111 : resF Try.prog 111 = some (200, k_l05Cost 111 190 191 192 193, [.t 4]) := by kernel_rfl
theorem af111 : K_l05Cost Try.prog 111 := a_l05Cost mixed res111 af190 af191 af192 af193
theorem res117 : resF Try.prog 117 = some (26, cEqS, [.t 4]) := by kernel_rfl
theorem res41 : resF Try.prog 41 = some (37, k_spHoldsC 109 116 111 117, [.t 4, .t 5]) := by kernel_rfl
theorem af41 : K_spHoldsC Try.prog 41 := a_spHoldsC mixed res41 af109 af116 af111 res117
theorem res158 : resF Try.prog 158 = some (15, k_within, [.t 6]) := by kernel_rfl
theorem af158 : K_within Try.prog 158 := a_within mixed res158
theorem res207 : resF Try.prog 207 = some (11, k_validSig 158, [.t 2]) := by kernel_rfl
theorem af207 : K_validSig Try.prog 207 := a_validSig mixed res207 af158
theorem res226 : resF Try.prog 226 = some (24, k_isTableB, [.t 6]) := by kernel_rfl
theorem af226 : K_isTableB Try.prog 226 := a_isTableB mixed res226
theorem res227 : resF Try.prog 227 = some (24, k_isTableI, [.t 6]) := by kernel_rfl
theorem af227 : K_isTableI Try.prog 227 := a_isTableI mixed res227
theorem res157 : resF Try.prog 157 = some (46, k_isFrameI 207 158 226 227, [.t 8]) := by kernel_rfl
theorem af157 : K_isFrameI Try.prog 157 := a_isFrameI mixed res157 af207 af158 af226 af227
theorem res78 : resF Try.prog 78 = some (44, k_imValidCosts 157 158, [.t 2]) := by kernel_rfl
theorem af78 : K_imValidCosts Try.prog 78 := a_imValidCosts mixed res78 af157 af158
theorem res236 : resF Try.prog 236 = some (15, k_kidsOf, [.t 2]) := by kernel_rfl
theorem af236 : K_kidsOf Try.prog 236 := a_kidsOf mixed res236
theorem res237 : resF Try.prog 237 = some (25, k_isCondition 237, [.t 2]) := by kernel_rfl
theorem af237 : K_isCondition Try.prog 237 := a_isCondition mixed res237
theorem res174 : resF Try.prog 174 = some (86, k_shaped 174 236 158 237, [.t 8, .t 9]) := by kernel_rfl
theorem af174 : K_shaped Try.prog 174 := a_shaped mixed res174 af236 af158 af237
theorem res94 : resF Try.prog 94 = some (14, k_isExpr 174, [.t 4]) := by kernel_rfl
theorem af94 : K_isExpr Try.prog 94 := a_isExpr mixed res94 af174
theorem res201 : resF Try.prog 201 = some (20, k_validExprs 94 207, [.t 4]) := by kernel_rfl
theorem af201 : K_validExprs Try.prog 201 := a_validExprs mixed res201 af94 af207
theorem res118 : resF Try.prog 118 = some (12, k_imValidEquation 201, [.t 4]) := by kernel_rfl
theorem af118 : K_imValidEquation Try.prog 118 := a_imValidEquation mixed res118 af201
theorem res195 : resF Try.prog 195 = some (33, k_tableI, [.t 4]) := by kernel_rfl
theorem af195 : K_tableI Try.prog 195 := a_tableI mixed res195
theorem res244 : resF Try.prog 244 = some (20, k_together, [.t 4]) := by kernel_rfl
theorem af244 : K_together Try.prog 244 := a_together mixed res244
theorem res200 : resF Try.prog 200 = some (18, k_cheaper, [.t 4]) := by kernel_rfl
theorem af200 : K_cheaper Try.prog 200 := a_cheaper mixed res200
theorem res243 : resF Try.prog 243 = some (33, k_product1 244 200, [.t 6]) := by kernel_rfl
theorem af243 : K_product1 Try.prog 243 := a_product1 mixed res243 af244 af200
theorem res197 : resF Try.prog 197 = some (9, k_product 195 243, [.t 4]) := by kernel_rfl
theorem af197 : K_product Try.prog 197 := a_product mixed res197 af195 af243
theorem res196 : resF Try.prog 196 = some (19, k_costs1, [.t 6]) := by kernel_rfl
theorem af196 : K_costs1 Try.prog 196 := a_costs1 mixed res196
theorem res198 : resF Try.prog 198 = some (18, k_costs2, [.t 5]) := by kernel_rfl
theorem af198 : K_costs2 Try.prog 198 := a_costs2 mixed res198
theorem res199 : resF Try.prog 199 = some (71, k_costs3 200, [.t 7]) := by kernel_rfl
theorem af199 : K_costs3 Try.prog 199 := a_costs3 mixed res199 af200
theorem res113 : resF Try.prog 113 = some (60, k_costs 113 195 197 196 198 199, [.t 4]) := by kernel_rfl
theorem af113 : K_costs Try.prog 113 := a_costs mixed res113 af195 af197 af196 af198 af199
theorem res202 : resF Try.prog 202 = some (32, cEfS 1, [.t 6]) := by kernel_rfl
theorem res203 : resF Try.prog 203 = some (26, cSeI, [.t 4]) := by kernel_rfl
theorem res119 : resF Try.prog 119 = some (8, k_sameRowsI 202 203, [.t 4]) := by kernel_rfl
theorem af119 : K_sameRowsI Try.prog 119 := a_sameRowsI mixed res119 res202 res203
theorem res43 : resF Try.prog 43 = some (25, k_imHoldsC 78 118 113 119, [.t 4, .t 5]) := by kernel_rfl
theorem af43 : K_imHoldsC Try.prog 43 := a_imHoldsC mixed res43 af78 af118 af113 af119
theorem res99 : resF Try.prog 99 = some (15, k_eqSig, [.t 4]) := by kernel_rfl
theorem af99 : K_eqSig Try.prog 99 := a_eqSig mixed res99
theorem res182 : resF Try.prog 182 = some (26, cEqB, [.t 4]) := by kernel_rfl
theorem res100 : resF Try.prog 100 = some (27, cEqC 182 1 false, [.t 4]) := by kernel_rfl
theorem res22 : resF Try.prog 22 = some (26, cEqS, [.t 4]) := by kernel_rfl
theorem res35 : resF Try.prog 35 = some (27, cEqC 22 1 false, [.t 4]) := by kernel_rfl
theorem res114 : resF Try.prog 114 = some (27, cEqC 35 1 false, [.t 4]) := by kernel_rfl

def rc36 : RC := (.seq (.reg false [⟨none, .box 2 5 (.t 0)⟩, ⟨none, .box 3 5 (.t 1)⟩, ⟨none, .mv 4 (.c (.sc (.bool false)))⟩]) ((.seq ((.seq (.reg false [⟨none, .fa 5 0 (.t 2)⟩, ⟨none, .ld 6 true 2 (.t 5)⟩, ⟨none, .fa 7 0 (.t 3)⟩, ⟨none, .ld 8 true 2 (.t 7)⟩, ⟨none, .call (some 9) 99 [(.t 6), (.t 8)]⟩, ⟨none, .un 10 .not (.t 9)⟩]) (.cond (.t 10) ((.seq (.reg false [⟨none, .mv 4 (.c (.sc (.bool false)))⟩]) (.ret))) (.skip)))) ((.seq ((.seq (.reg false [⟨none, .fa 11 2 (.t 2)⟩, ⟨none, .ld 12 false 1 (.t 11)⟩, ⟨none, .fa 13 2 (.t 3)⟩, ⟨none, .ld 14 false 1 (.t 13)⟩, ⟨none, .bin 15 .neq (.t 12) (.t 14)⟩]) (.cond (.t 15) ((.seq (.reg false [⟨none, .mv 4 (.c (.sc (.bool false)))⟩]) (.ret))) (.skip)))) ((.seq ((.seq (.reg false [⟨none, .fa 16 3 (.t 2)⟩, ⟨none, .ld 17 false 1 (.t 16)⟩, ⟨none, .fa 18 3 (.t 3)⟩, ⟨none, .ld 19 false 1 (.t 18)⟩, ⟨none, .call (some 20) 100 [(.t 17), (.t 19)]⟩, ⟨none, .un 21 .not (.t 20)⟩]) (.cond (.t 21) ((.seq (.reg false [⟨none, .mv 4 (.c (.sc (.bool false)))⟩]) (.ret))) (.skip)))) ((.seq ((.seq (.reg false [⟨none, .fa 22 4 (.t 2)⟩, ⟨none, .ld 23 false 1 (.t 22)⟩, ⟨none, .fa 24 4 (.t 3)⟩, ⟨none, .ld 25 false 1 (.t 24)⟩, ⟨none, .call (some 26) 114 [(.t 23), (.t 25)]⟩, ⟨none, .un 27 .not (.t 26)⟩]) (.cond (.t 27) ((.seq (.reg false [⟨none, .mv 4 (.c (.sc (.bool false)))⟩]) (.ret))) (.skip)))) ((.seq (.reg false [⟨none, .mv 4 (.c (.sc (.bool true)))⟩]) (.ret))))))))))))
theorem res36 : resF Try.prog 36 = some (28, rc36, [.t 4]) := by kernel_rfl
theorem res102 : resF Try.prog 102 = some (27, cEqC 24 3 true, [.t 4]) := by kernel_rfl
theorem res24 : resF Try.prog 24 = some (21, k_eqExpr 102, [.t 4]) := by kernel_rfl

def rc44 : RC := (.seq (.reg false [⟨none, .box 2 6 (.t 0)⟩, ⟨none, .box 3 6 (.t 1)⟩, ⟨none, .mv 4 (.c (.sc (.bool false)))⟩]) ((.seq ((.seq (.reg false [⟨none, .fa 5 0 (.t 2)⟩, ⟨none, .ld 6 true 3 (.t 5)⟩, ⟨none, .fa 7 0 (.t 3)⟩, ⟨none, .ld 8 true 3 (.t 7)⟩, ⟨none, .call (some 9) 24 [(.t 6), (.t 8)]⟩, ⟨none, .un 10 .not (.t 9)⟩]) (.cond (.t 10) ((.seq (.reg false [⟨none, .mv 4 (.c (.sc (.bool false)))⟩]) (.ret))) (.skip)))) ((.seq ((.seq (.reg false [⟨none, .fa 11 3 (.t 2)⟩, ⟨none, .ld 12 true 3 (.t 11)⟩, ⟨none, .fa 13 3 (.t 3)⟩, ⟨none, .ld 14 true 3 (.t 13)⟩, ⟨none, .call (some 15) 24 [(.t 12), (.t 14)]⟩, ⟨none, .un 16 .not (.t 15)⟩]) (.cond (.t 16) ((.seq (.reg false [⟨none, .mv 4 (.c (.sc (.bool false)))⟩]) (.ret))) (.skip)))) ((.seq (.reg false [⟨none, .mv 4 (.c (.sc (.bool true)))⟩]) (.ret))))))))
theorem res44 : resF Try.prog 44 = some (17, rc44, [.t 4]) := by kernel_rfl

def rc6 : RC := (.seq (.reg false [⟨none, .box 2 5 (.t 0)⟩, ⟨none, .box 3 6 (.t 1)⟩, ⟨none, .mv 4 (.c (.sc (.bool false)))⟩]) ((.seq (.reg false [⟨none, .mv 5 (.c (.sc (.int .i64 1048576)))⟩]) ((.seq (.reg false [⟨none, .ld 12 true 5 (.t 2)⟩, ⟨none, .mv 13 (.t 5)⟩, ⟨none, .call (some 14) 31 [(.t 12), (.t 13)]⟩, ⟨none, .mv 5 (.t 14)⟩]) ((.seq ((.seq (.reg false [⟨none, .mv 15 (.t 5)⟩, ⟨none, .bin 16 .lss (.t 15) (.c (.sc (.int .i64 0)))⟩]) (.cond (.t 16) ((.seq (.reg false [⟨none, .mv 4 (.c (.sc (.bool true)))⟩]) (.ret))) (.skip)))) ((.seq (.reg false [⟨none, .ld 17 true 6 (.t 3)⟩, ⟨none, .mv 18 (.t 5)⟩, ⟨none, .call (some 19) 40 [(.t 17), (.t 18)]⟩, ⟨none, .mv 5 (.t 19)⟩]) ((.seq ((.seq (.reg false [⟨none, .mv 20 (.t 5)⟩, ⟨none, .bin 21 .lss (.t 20) (.c (.sc (.int .i64 0)))⟩]) (.cond (.t 21) ((.seq (.reg false [⟨none, .mv 4 (.c (.sc (.bool true)))⟩]) (.ret))) (.skip)))) ((.seq (.reg true [⟨none, .ld 23 true 5 (.t 2)⟩, ⟨none, .call (some 24) 33 [(.t 23)]⟩, ⟨none, .ld 25 true 6 (.t 3)⟩, ⟨none, .call (some 26) 42 [(.t 25)]⟩, ⟨none, .call (some 27) 41 [(.t 24), (.t 26)]⟩, ⟨none, .mv 22 (.t 27)⟩, ⟨none, .ext 28 (.t 22) 0⟩, ⟨none, .ext 29 (.t 22) 1⟩, ⟨none, .mv 6 (.t 28)⟩, ⟨none, .mv 7 (.t 29)⟩]) ((.seq (.reg false [⟨none, .ld 30 true 5 (.t 2)⟩, ⟨none, .call (some 31) 33 [(.t 30)]⟩, ⟨none, .zer 8 5 (.ag [(.sc (.int .i64 0)), (.sc (.int .i64 0)), (.sc (.int .i64 0)), (.ls (some true) 1 []), (.ls (some true) 1 [])])⟩, ⟨none, .st 5 (.t 8) (.t 31)⟩]) ((.seq (.reg false [⟨none, .ld 32 true 6 (.t 3)⟩, ⟨none, .call (some 33) 42 [(.t 32)]⟩, ⟨none, .zer 9 6 (.ag [(.sc (.int .i64 0)), (.sc (.int .i64 0)), (.ls (some true) 3 []), (.sc (.int .i64 0)), (.sc (.int .i64 0)), (.ls (some true) 3 [])])⟩, ⟨none, .st 6 (.t 9) (.t 33)⟩]) ((.seq (.reg false [⟨none, .ld 35 true 5 (.t 8)⟩, ⟨none, .ld 36 true 6 (.t 9)⟩, ⟨none, .call (some 37) 43 [(.t 35), (.t 36)]⟩, ⟨none, .mv 34 (.t 37)⟩, ⟨none, .ext 38 (.t 34) 0⟩, ⟨none, .ext 39 (.t 34) 1⟩, ⟨none, .mv 10 (.t 38)⟩, ⟨none, .mv 11 (.t 39)⟩]) ((.seq ((.seq (.reg false [⟨none, .mv 40 (.t 10)⟩, ⟨none, .mv 41 (.t 6)⟩, ⟨none, .beq 42 true (.t 40) (.t 41)⟩, ⟨none, .mv 43 (.t 42)⟩, ⟨some (43, false), .mv 44 (.t 11)⟩, ⟨some (43, false), .mv 45 (.t 7)⟩, ⟨some (43, false), .bin 46 .neq (.t 44) (.t 45)⟩, ⟨none, .pick 47 (.t 43) (.c (.sc (.bool true))) (.t 46)⟩]) (.cond (.t 47) ((.seq (.reg false [⟨none, .mv 4 (.c (.sc (.bool false)))⟩]) (.ret))) (.skip)))) ((.seq ((.seq (.reg true [⟨none, .ld 48 true 5 (.t 8)⟩, ⟨none, .ld 49 true 5 (.t 2)⟩, ⟨none, .call (some 50) 33 [(.t 49)]⟩, ⟨none, .call (some 51) 36 [(.t 48), (.t 50)]⟩, ⟨none, .un 52 .not (.t 51)⟩]) (.cond (.t 52) ((.seq (.reg false [⟨none, .mv 4 (.c (.sc (.bool false)))⟩]) (.ret))) (.skip)))) ((.seq ((.seq (.reg true [⟨none, .ld 53 true 6 (.t 9)⟩, ⟨none, .ld 54 true 6 (.t 3)⟩, ⟨none, .call (some 55) 42 [(.t 54)]⟩, ⟨none, .call (some 56) 44 [(.t 53), (.t 55)]⟩, ⟨none, .un 57 .not (.t 56)⟩]) (.cond (.t 57) ((.seq (.reg false [⟨none, .mv 4 (.c (.sc (.bool false)))⟩]) (.ret))) (.skip)))) ((.seq (.reg false [⟨none, .mv 4 (.c (.sc (.bool true)))⟩]) (.ret))))))))))))))))))))))))))))
theorem res6 : resF Try.prog 6 = some (58, rc6, [.t 4]) := by kernel_rfl
noncomputable def famBoolS : Fam Try.prog (eS 1 eB) 169 172 182 := famP mixed encB noB ⟨rfl, rfl, rfl⟩ (by omega) res169 res172 (eqL fun x y => x == y) (fun _ => eqL_refl fun _ _ => by simp) fun a b => af_eqB mixed res182 a b
theorem famBoolS_t (x) : famBoolS.t x = (some false, x.2) := rfl
noncomputable def famBoolSS : Fam Try.prog (eS 1 (eS 1 eB)) 85 90 100 := famC mixed famBoolS (encS eB 1) ⟨rfl, rfl, rfl⟩ (by omega) res85 res90 res100
theorem famBoolSS_t (x) : famBoolSS.t x = (some false, x.2.map famBoolS.t) := rfl
noncomputable def famInt64S : Fam Try.prog (eS 1 eI) 127 20 22 := famP mixed encI noI ⟨rfl, rfl, rfl⟩ (by omega) res127 res20 (eqL fun x y => x == y) (fun _ => eqL_refl fun _ _ => by simp) fun a b => af_eqS mixed res22 a b
theorem famInt64S_t (x) : famInt64S.t x = (some false, x.2) := rfl
noncomputable def famInt64SS : Fam Try.prog (eS 1 (eS 1 eI)) 185 194 35 := famC mixed famInt64S (encS eI 1) ⟨rfl, rfl, rfl⟩ (by omega) res185 res194 res35
theorem famInt64SS_t (x) : famInt64SS.t x = (some false, x.2.map famInt64S.t) := rfl
noncomputable def famInt64SSS : Fam Try.prog (eS 1 (eS 1 (eS 1 eI))) 108 112 114 := famC mixed famInt64SS (encS (eS 1 eI) 1) ⟨rfl, rfl, rfl⟩ (by omega) res108 res112 res114
theorem famInt64SSS_t (x) : famInt64SSS.t x = (some false, x.2.map famInt64SS.t) := rfl
noncomputable def szCosts (m : Co) : Int → Int := fun l => nx (famBoolSS.s m.2.2.1 l) (fun l => nx (famInt64SSS.s m.2.2.2 l) (fun l => l))
def fitCosts (m : Co) : Prop := famBoolSS.fit m.2.2.1 ∧ famInt64SSS.fit m.2.2.2
noncomputable def tCosts (m : Co) : Co := (m.1, m.2.1, famBoolSS.t m.2.2.1, famInt64SSS.t m.2.2.2)
noncomputable def qCosts (a b : Co) : Bool := (qG a.1 b.1 && ((a.2.1 == b.2.1) && (famBoolSS.q a.2.2.1 b.2.2.1 && famInt64SSS.q a.2.2.2 b.2.2.2)))
theorem szCosts_in (m : Co) (l : Int) (h1 : 0 ≤ l) (h2 : l ≤ 1048576) : -1 ≤ szCosts m l ∧ szCosts m l ≤ l := by
  refine in_tr (Int.le_refl l) (nx_in (famBoolSS.s_in m.2.2.1 l h1 (by omega)) h1 (by omega) fun y0 a0 b0 => ?_)
  refine in_tr b0 (nx_in (famInt64SSS.s_in m.2.2.2 y0 a0 (by omega)) a0 (by omega) fun y1 a1 b1 => ?_)
  exact ⟨by omega, b1⟩
theorem szCosts_fit (m : Co) (l : Int) (h2 : l ≤ 1048576) (h1 : 0 ≤ l) (h : 0 ≤ szCosts m l) : fitCosts m := by
  obtain ⟨p0, h⟩ := nx_fit h
  have e0 := famBoolSS.s_fit m.2.2.1 l (by omega) h1 p0
  have b0 := famBoolSS.s_in m.2.2.1 l h1 (by omega)
  obtain ⟨p1, h⟩ := nx_fit h
  have e1 := famInt64SSS.s_fit m.2.2.2 _ (by omega) p0 p1
  have b1 := famInt64SSS.s_in m.2.2.2 (famBoolSS.s m.2.2.1 l) p0 (by omega)
  exact ⟨e0, e1⟩
theorem af31 (m : Co) (l : Int) (h1 : 0 ≤ l) (h2 : l ≤ 1048576) : AF Try.prog 31 [eCo m, eI l] (.own (eI (szCosts m l))) := by
  refine af_of_res res31 mixed rfl fun _ => ?_
  simp +contextual -implicitDefEqProofs only [rc31, eCo, eG, eS, go_sem, eI, eB, ↓reduceIte, Nat.reduceEqDiff, Nat.reduceAdd, Nat.reduceLeDiff, Nat.reduceMul, Nat.reduceBEq, Nat.reduceBneDiff, Nat.reduceLT, Nat.reduceSub, decide_true, decide_false, and_self, true_and, and_true, false_and, and_false, not_true_eq_false, not_false_eq_true, false_implies, true_implies, implies_true, ge_iff_le, Bool.false_eq_true, List.cons_append, List.nil_append]
  refine callQ_self ?_ (famBoolSS.afS m.2.2.1 l (by omega) (by omega)) ?_
  · first | exact rfl | (simp only [eE_eta]; exact rfl)
  simp +contextual -implicitDefEqProofs only [eCo, eG, eS, go_sem, eI, eB, ↓reduceIte, Nat.reduceEqDiff, Nat.reduceAdd, Nat.reduceLeDiff, Nat.reduceMul, Nat.reduceBEq, Nat.reduceBneDiff, Nat.reduceLT, Nat.reduceSub, decide_true, decide_false, and_self, true_and, and_true, false_and, and_false, not_true_eq_false, not_false_eq_true, false_implies, true_implies, implies_true, ge_iff_le, Bool.false_eq_true, List.cons_append, List.nil_append]
  have b0 := famBoolSS.s_in m.2.2.1 l (by omega) (by omega)
  refine ⟨fun h => D.Le.sc_eq (by simp only [szCosts]; rw [nx_neg h]), fun g0 => ?_⟩
  refine callQ_self ?_ (famInt64SSS.afS m.2.2.2 (famBoolSS.s m.2.2.1 l) (by omega) (by omega)) ?_
  · first | exact rfl | (simp only [eE_eta]; exact rfl)
  simp +contextual -implicitDefEqProofs only [eCo, eG, eS, go_sem, eI, eB, ↓reduceIte, Nat.reduceEqDiff, Nat.reduceAdd, Nat.reduceLeDiff, Nat.reduceMul, Nat.reduceBEq, Nat.reduceBneDiff, Nat.reduceLT, Nat.reduceSub, decide_true, decide_false, and_self, true_and, and_true, false_and, and_false, not_true_eq_false, not_false_eq_true, false_implies, true_implies, implies_true, ge_iff_le, Bool.false_eq_true, List.cons_append, List.nil_append]
  have b1 := famInt64SSS.s_in m.2.2.2 (famBoolSS.s m.2.2.1 l) (by omega) (by omega)
  refine ⟨fun h => D.Le.sc_eq (by simp only [szCosts]; rw [nx_pos g0, nx_neg h]), fun g1 => ?_⟩
  exact D.Le.sc_eq (by simp only [szCosts]; rw [nx_pos g0, nx_pos g1])
theorem af33 (m : Co) (h : fitCosts m) : AF Try.prog 33 [eCo m] (.own (eCo (tCosts m))) := by
  refine af_of_res res33 mixed rfl fun _ => ?_
  simp +contextual -implicitDefEqProofs only [rc33, eCo, eG, eS, tCosts, famBoolSS_t, famInt64SSS_t, go_sem, eI, eB, ↓reduceIte, Nat.reduceEqDiff, Nat.reduceAdd, Nat.reduceLeDiff, Nat.reduceMul, Nat.reduceBEq, Nat.reduceBneDiff, Nat.reduceLT, Nat.reduceSub, decide_true, decide_false, and_self, true_and, and_true, false_and, and_false, not_true_eq_false, not_false_eq_true, false_implies, true_implies, implies_true, ge_iff_le, Bool.false_eq_true, List.cons_append, List.nil_append]
  refine callQ_self ?_ (af50 m.1) ?_
  · first | exact rfl | (simp only [eE_eta]; exact rfl)
  simp +contextual -implicitDefEqProofs only [eCo, eG, eS, tCosts, famBoolSS_t, famInt64SSS_t, go_sem, eI, eB, ↓reduceIte, Nat.reduceEqDiff, Nat.reduceAdd, Nat.reduceLeDiff, Nat.reduceMul, Nat.reduceBEq, Nat.reduceBneDiff, Nat.reduceLT, Nat.reduceSub, decide_true, decide_false, and_self, true_and, and_true, false_and, and_false, not_true_eq_false, not_false_eq_true, false_implies, true_implies, implies_true, ge_iff_le, Bool.false_eq_true, List.cons_append, List.nil_append]
  refine callQ_self ?_ (famBoolSS.afT m.2.2.1 h.1) ?_
  · first | exact rfl | (simp only [eE_eta]; exact rfl)
  simp +contextual -implicitDefEqProofs only [eCo, eG, eS, tCosts, famBoolSS_t, famInt64SSS_t, go_sem, eI, eB, ↓reduceIte, Nat.reduceEqDiff, Nat.reduceAdd, Nat.reduceLeDiff, Nat.reduceMul, Nat.reduceBEq, Nat.reduceBneDiff, Nat.reduceLT, Nat.reduceSub, decide_true, decide_false, and_self, true_and, and_true, false_and, and_false, not_true_eq_false, not_false_eq_true, false_implies, true_implies, implies_true, ge_iff_le, Bool.false_eq_true, List.cons_append, List.nil_append]
  refine callQ_self ?_ (famInt64SSS.afT m.2.2.2 h.2) ?_
  · first | exact rfl | (simp only [eE_eta]; exact rfl)
  simp +contextual -implicitDefEqProofs only [eCo, eG, eS, tCosts, famBoolSS_t, famInt64SSS_t, go_sem, eI, eB, ↓reduceIte, Nat.reduceEqDiff, Nat.reduceAdd, Nat.reduceLeDiff, Nat.reduceMul, Nat.reduceBEq, Nat.reduceBneDiff, Nat.reduceLT, Nat.reduceSub, decide_true, decide_false, and_self, true_and, and_true, false_and, and_false, not_true_eq_false, not_false_eq_true, false_implies, true_implies, implies_true, ge_iff_le, Bool.false_eq_true, List.cons_append, List.nil_append]
theorem af36 (a b : Co) : AF Try.prog 36 [eCo a, eCo b] (.own (eB (qCosts a b))) := by
  refine af_of_res res36 mixed rfl fun _ => ?_
  simp +contextual -implicitDefEqProofs only [rc36, qCosts, bne, Bool.not_true, Bool.not_false, Bool.true_and, Bool.false_and, Bool.and_true, Bool.and_false, eCo, eG, eS, go_sem, eI, eB, ↓reduceIte, Nat.reduceEqDiff, Nat.reduceAdd, Nat.reduceLeDiff, Nat.reduceMul, Nat.reduceBEq, Nat.reduceBneDiff, Nat.reduceLT, Nat.reduceSub, decide_true, decide_false, and_self, true_and, and_true, false_and, and_false, not_true_eq_false, not_false_eq_true, false_implies, true_implies, implies_true, ge_iff_le, Bool.false_eq_true, List.cons_append, List.nil_append]
  refine callQ_self ?_ (af99 a.1 b.1) ?_
  · first | exact rfl | (simp only [eE_eta]; exact rfl)
  cases e0 : qG a.1 b.1
  · simp +contextual -implicitDefEqProofs only [qCosts, bne, Bool.not_true, Bool.not_false, Bool.true_and, Bool.false_and, Bool.and_true, Bool.and_false, eCo, eG, eS, e0, go_sem, eI, eB, ↓reduceIte, Nat.reduceEqDiff, Nat.reduceAdd, Nat.reduceLeDiff, Nat.reduceMul, Nat.reduceBEq, Nat.reduceBneDiff, Nat.reduceLT, Nat.reduceSub, decide_true, decide_false, and_self, true_and, and_true, false_and, and_false, not_true_eq_false, not_false_eq_true, false_implies, true_implies, implies_true, ge_iff_le, Bool.false_eq_true, List.cons_append, List.nil_append]
  cases e1 : (a.2.1 == b.2.1)
  · simp +contextual -implicitDefEqProofs only [qCosts, bne, Bool.not_true, Bool.not_false, Bool.true_and, Bool.false_and, Bool.and_true, Bool.and_false, eCo, eG, eS, e0, e1, go_sem, eI, eB, ↓reduceIte, Nat.reduceEqDiff, Nat.reduceAdd, Nat.reduceLeDiff, Nat.reduceMul, Nat.reduceBEq, Nat.reduceBneDiff, Nat.reduceLT, Nat.reduceSub, decide_true, decide_false, and_self, true_and, and_true, false_and, and_false, not_true_eq_false, not_false_eq_true, false_implies, true_implies, implies_true, ge_iff_le, Bool.false_eq_true, List.cons_append, List.nil_append]
  simp +contextual -implicitDefEqProofs only [qCosts, bne, Bool.not_true, Bool.not_false, Bool.true_and, Bool.false_and, Bool.and_true, Bool.and_false, eCo, eG, eS, e0, e1, go_sem, eI, eB, ↓reduceIte, Nat.reduceEqDiff, Nat.reduceAdd, Nat.reduceLeDiff, Nat.reduceMul, Nat.reduceBEq, Nat.reduceBneDiff, Nat.reduceLT, Nat.reduceSub, decide_true, decide_false, and_self, true_and, and_true, false_and, and_false, not_true_eq_false, not_false_eq_true, false_implies, true_implies, implies_true, ge_iff_le, Bool.false_eq_true, List.cons_append, List.nil_append]
  refine callQ_self ?_ (famBoolSS.afQ a.2.2.1 b.2.2.1) ?_
  · first | exact rfl | (simp only [eE_eta]; exact rfl)
  cases e2 : famBoolSS.q a.2.2.1 b.2.2.1
  · simp +contextual -implicitDefEqProofs only [qCosts, bne, Bool.not_true, Bool.not_false, Bool.true_and, Bool.false_and, Bool.and_true, Bool.and_false, eCo, eG, eS, e0, e1, e2, go_sem, eI, eB, ↓reduceIte, Nat.reduceEqDiff, Nat.reduceAdd, Nat.reduceLeDiff, Nat.reduceMul, Nat.reduceBEq, Nat.reduceBneDiff, Nat.reduceLT, Nat.reduceSub, decide_true, decide_false, and_self, true_and, and_true, false_and, and_false, not_true_eq_false, not_false_eq_true, false_implies, true_implies, implies_true, ge_iff_le, Bool.false_eq_true, List.cons_append, List.nil_append]
  simp +contextual -implicitDefEqProofs only [qCosts, bne, Bool.not_true, Bool.not_false, Bool.true_and, Bool.false_and, Bool.and_true, Bool.and_false, eCo, eG, eS, e0, e1, e2, go_sem, eI, eB, ↓reduceIte, Nat.reduceEqDiff, Nat.reduceAdd, Nat.reduceLeDiff, Nat.reduceMul, Nat.reduceBEq, Nat.reduceBneDiff, Nat.reduceLT, Nat.reduceSub, decide_true, decide_false, and_self, true_and, and_true, false_and, and_false, not_true_eq_false, not_false_eq_true, false_implies, true_implies, implies_true, ge_iff_le, Bool.false_eq_true, List.cons_append, List.nil_append]
  refine callQ_self ?_ (famInt64SSS.afQ a.2.2.2 b.2.2.2) ?_
  · first | exact rfl | (simp only [eE_eta]; exact rfl)
  cases e3 : famInt64SSS.q a.2.2.2 b.2.2.2
  · simp +contextual -implicitDefEqProofs only [qCosts, bne, Bool.not_true, Bool.not_false, Bool.true_and, Bool.false_and, Bool.and_true, Bool.and_false, eCo, eG, eS, e0, e1, e2, e3, go_sem, eI, eB, ↓reduceIte, Nat.reduceEqDiff, Nat.reduceAdd, Nat.reduceLeDiff, Nat.reduceMul, Nat.reduceBEq, Nat.reduceBneDiff, Nat.reduceLT, Nat.reduceSub, decide_true, decide_false, and_self, true_and, and_true, false_and, and_false, not_true_eq_false, not_false_eq_true, false_implies, true_implies, implies_true, ge_iff_le, Bool.false_eq_true, List.cons_append, List.nil_append]
  · simp +contextual -implicitDefEqProofs only [qCosts, bne, Bool.not_true, Bool.not_false, Bool.true_and, Bool.false_and, Bool.and_true, Bool.and_false, eCo, eG, eS, e0, e1, e2, e3, go_sem, eI, eB, ↓reduceIte, Nat.reduceEqDiff, Nat.reduceAdd, Nat.reduceLeDiff, Nat.reduceMul, Nat.reduceBEq, Nat.reduceBneDiff, Nat.reduceLT, Nat.reduceSub, decide_true, decide_false, and_self, true_and, and_true, false_and, and_false, not_true_eq_false, not_false_eq_true, false_implies, true_implies, implies_true, ge_iff_le, Bool.false_eq_true, List.cons_append, List.nil_append]
theorem qCosts_refl (m : Co) : qCosts m m = true := by simp [qCosts, qG, famBoolSS.q_refl, famInt64SSS.q_refl]
noncomputable def famCosts : Fam Try.prog eCo 31 33 36 := ⟨szCosts, tCosts, qCosts, fitCosts, szCosts_in, szCosts_fit, qCosts_refl, af31, af33, af36⟩
theorem famCosts_t (x) : famCosts.t x = tCosts x := rfl
noncomputable def famExpr : Fam Try.prog eE 16 19 24 := famE mixed res16 res87 res19 res92 res24 res102
theorem famExpr_t (x) : famExpr.t x = tE x := rfl
noncomputable def szEquation (m : Eq2) : Int → Int := fun l => nx (famExpr.s m.1 l) (fun l => nx (famExpr.s m.2 l) (fun l => l))
def fitEquation (m : Eq2) : Prop := famExpr.fit m.1 ∧ famExpr.fit m.2
noncomputable def tEquation (m : Eq2) : Eq2 := (famExpr.t m.1, famExpr.t m.2)
noncomputable def qEquation (a b : Eq2) : Bool := (famExpr.q a.1 b.1 && famExpr.q a.2 b.2)
theorem szEquation_in (m : Eq2) (l : Int) (h1 : 0 ≤ l) (h2 : l ≤ 1048576) : -1 ≤ szEquation m l ∧ szEquation m l ≤ l := by
  refine in_tr (Int.le_refl l) (nx_in (famExpr.s_in m.1 l h1 (by omega)) h1 (by omega) fun y0 a0 b0 => ?_)
  refine in_tr b0 (nx_in (famExpr.s_in m.2 y0 a0 (by omega)) a0 (by omega) fun y1 a1 b1 => ?_)
  exact ⟨by omega, b1⟩
theorem szEquation_fit (m : Eq2) (l : Int) (h2 : l ≤ 1048576) (h1 : 0 ≤ l) (h : 0 ≤ szEquation m l) : fitEquation m := by
  obtain ⟨p0, h⟩ := nx_fit h
  have e0 := famExpr.s_fit m.1 l (by omega) h1 p0
  have b0 := famExpr.s_in m.1 l h1 (by omega)
  obtain ⟨p1, h⟩ := nx_fit h
  have e1 := famExpr.s_fit m.2 _ (by omega) p0 p1
  have b1 := famExpr.s_in m.2 (famExpr.s m.1 l) p0 (by omega)
  exact ⟨e0, e1⟩
theorem af40 (m : Eq2) (l : Int) (h1 : 0 ≤ l) (h2 : l ≤ 1048576) : AF Try.prog 40 [eQ m, eI l] (.own (eI (szEquation m l))) := by
  refine af_of_res res40 mixed rfl fun _ => ?_
  simp +contextual -implicitDefEqProofs only [rc40, eQ, go_sem, eI, eB, ↓reduceIte, Nat.reduceEqDiff, Nat.reduceAdd, Nat.reduceLeDiff, Nat.reduceMul, Nat.reduceBEq, Nat.reduceBneDiff, Nat.reduceLT, Nat.reduceSub, decide_true, decide_false, and_self, true_and, and_true, false_and, and_false, not_true_eq_false, not_false_eq_true, false_implies, true_implies, implies_true, ge_iff_le, Bool.false_eq_true, List.cons_append, List.nil_append]
  refine callQ_self ?_ (famExpr.afS m.1 l (by omega) (by omega)) ?_
  · first | exact rfl | (simp only [eE_eta]; exact rfl)
  simp +contextual -implicitDefEqProofs only [eQ, go_sem, eI, eB, ↓reduceIte, Nat.reduceEqDiff, Nat.reduceAdd, Nat.reduceLeDiff, Nat.reduceMul, Nat.reduceBEq, Nat.reduceBneDiff, Nat.reduceLT, Nat.reduceSub, decide_true, decide_false, and_self, true_and, and_true, false_and, and_false, not_true_eq_false, not_false_eq_true, false_implies, true_implies, implies_true, ge_iff_le, Bool.false_eq_true, List.cons_append, List.nil_append]
  have b0 := famExpr.s_in m.1 l (by omega) (by omega)
  refine ⟨fun h => D.Le.sc_eq (by simp only [szEquation]; rw [nx_neg h]), fun g0 => ?_⟩
  refine callQ_self ?_ (famExpr.afS m.2 (famExpr.s m.1 l) (by omega) (by omega)) ?_
  · first | exact rfl | (simp only [eE_eta]; exact rfl)
  simp +contextual -implicitDefEqProofs only [eQ, go_sem, eI, eB, ↓reduceIte, Nat.reduceEqDiff, Nat.reduceAdd, Nat.reduceLeDiff, Nat.reduceMul, Nat.reduceBEq, Nat.reduceBneDiff, Nat.reduceLT, Nat.reduceSub, decide_true, decide_false, and_self, true_and, and_true, false_and, and_false, not_true_eq_false, not_false_eq_true, false_implies, true_implies, implies_true, ge_iff_le, Bool.false_eq_true, List.cons_append, List.nil_append]
  have b1 := famExpr.s_in m.2 (famExpr.s m.1 l) (by omega) (by omega)
  refine ⟨fun h => D.Le.sc_eq (by simp only [szEquation]; rw [nx_pos g0, nx_neg h]), fun g1 => ?_⟩
  exact D.Le.sc_eq (by simp only [szEquation]; rw [nx_pos g0, nx_pos g1])
theorem af42 (m : Eq2) (h : fitEquation m) : AF Try.prog 42 [eQ m] (.own (eQ (tEquation m))) := by
  refine af_of_res res42 mixed rfl fun _ => ?_
  simp +contextual -implicitDefEqProofs only [rc42, eQ, tEquation, famExpr_t, eE_te, tE_k, tE_n, tE_nn, tE_ks, go_sem, eI, eB, ↓reduceIte, Nat.reduceEqDiff, Nat.reduceAdd, Nat.reduceLeDiff, Nat.reduceMul, Nat.reduceBEq, Nat.reduceBneDiff, Nat.reduceLT, Nat.reduceSub, decide_true, decide_false, and_self, true_and, and_true, false_and, and_false, not_true_eq_false, not_false_eq_true, false_implies, true_implies, implies_true, ge_iff_le, Bool.false_eq_true, List.cons_append, List.nil_append]
  refine callQ_self ?_ (famExpr.afT m.1 h.1) ?_
  · first | exact rfl | (simp only [eE_eta]; exact rfl)
  simp +contextual -implicitDefEqProofs only [eQ, tEquation, famExpr_t, eE_te, tE_k, tE_n, tE_nn, tE_ks, go_sem, eI, eB, ↓reduceIte, Nat.reduceEqDiff, Nat.reduceAdd, Nat.reduceLeDiff, Nat.reduceMul, Nat.reduceBEq, Nat.reduceBneDiff, Nat.reduceLT, Nat.reduceSub, decide_true, decide_false, and_self, true_and, and_true, false_and, and_false, not_true_eq_false, not_false_eq_true, false_implies, true_implies, implies_true, ge_iff_le, Bool.false_eq_true, List.cons_append, List.nil_append]
  refine callQ_self ?_ (famExpr.afT m.2 h.2) ?_
  · first | exact rfl | (simp only [eE_eta]; exact rfl)
  simp +contextual -implicitDefEqProofs only [eQ, tEquation, famExpr_t, eE_te, tE_k, tE_n, tE_nn, tE_ks, go_sem, eI, eB, ↓reduceIte, Nat.reduceEqDiff, Nat.reduceAdd, Nat.reduceLeDiff, Nat.reduceMul, Nat.reduceBEq, Nat.reduceBneDiff, Nat.reduceLT, Nat.reduceSub, decide_true, decide_false, and_self, true_and, and_true, false_and, and_false, not_true_eq_false, not_false_eq_true, false_implies, true_implies, implies_true, ge_iff_le, Bool.false_eq_true, List.cons_append, List.nil_append]
theorem af44 (a b : Eq2) : AF Try.prog 44 [eQ a, eQ b] (.own (eB (qEquation a b))) := by
  refine af_of_res res44 mixed rfl fun _ => ?_
  simp +contextual -implicitDefEqProofs only [rc44, qEquation, bne, Bool.not_true, Bool.not_false, Bool.true_and, Bool.false_and, Bool.and_true, Bool.and_false, eQ, go_sem, eI, eB, ↓reduceIte, Nat.reduceEqDiff, Nat.reduceAdd, Nat.reduceLeDiff, Nat.reduceMul, Nat.reduceBEq, Nat.reduceBneDiff, Nat.reduceLT, Nat.reduceSub, decide_true, decide_false, and_self, true_and, and_true, false_and, and_false, not_true_eq_false, not_false_eq_true, false_implies, true_implies, implies_true, ge_iff_le, Bool.false_eq_true, List.cons_append, List.nil_append]
  refine callQ_self ?_ (famExpr.afQ a.1 b.1) ?_
  · first | exact rfl | (simp only [eE_eta]; exact rfl)
  cases e0 : famExpr.q a.1 b.1
  · simp +contextual -implicitDefEqProofs only [qEquation, bne, Bool.not_true, Bool.not_false, Bool.true_and, Bool.false_and, Bool.and_true, Bool.and_false, eQ, e0, go_sem, eI, eB, ↓reduceIte, Nat.reduceEqDiff, Nat.reduceAdd, Nat.reduceLeDiff, Nat.reduceMul, Nat.reduceBEq, Nat.reduceBneDiff, Nat.reduceLT, Nat.reduceSub, decide_true, decide_false, and_self, true_and, and_true, false_and, and_false, not_true_eq_false, not_false_eq_true, false_implies, true_implies, implies_true, ge_iff_le, Bool.false_eq_true, List.cons_append, List.nil_append]
  simp +contextual -implicitDefEqProofs only [qEquation, bne, Bool.not_true, Bool.not_false, Bool.true_and, Bool.false_and, Bool.and_true, Bool.and_false, eQ, e0, go_sem, eI, eB, ↓reduceIte, Nat.reduceEqDiff, Nat.reduceAdd, Nat.reduceLeDiff, Nat.reduceMul, Nat.reduceBEq, Nat.reduceBneDiff, Nat.reduceLT, Nat.reduceSub, decide_true, decide_false, and_self, true_and, and_true, false_and, and_false, not_true_eq_false, not_false_eq_true, false_implies, true_implies, implies_true, ge_iff_le, Bool.false_eq_true, List.cons_append, List.nil_append]
  refine callQ_self ?_ (famExpr.afQ a.2 b.2) ?_
  · first | exact rfl | (simp only [eE_eta]; exact rfl)
  cases e1 : famExpr.q a.2 b.2
  · simp +contextual -implicitDefEqProofs only [qEquation, bne, Bool.not_true, Bool.not_false, Bool.true_and, Bool.false_and, Bool.and_true, Bool.and_false, eQ, e0, e1, go_sem, eI, eB, ↓reduceIte, Nat.reduceEqDiff, Nat.reduceAdd, Nat.reduceLeDiff, Nat.reduceMul, Nat.reduceBEq, Nat.reduceBneDiff, Nat.reduceLT, Nat.reduceSub, decide_true, decide_false, and_self, true_and, and_true, false_and, and_false, not_true_eq_false, not_false_eq_true, false_implies, true_implies, implies_true, ge_iff_le, Bool.false_eq_true, List.cons_append, List.nil_append]
  · simp +contextual -implicitDefEqProofs only [qEquation, bne, Bool.not_true, Bool.not_false, Bool.true_and, Bool.false_and, Bool.and_true, Bool.and_false, eQ, e0, e1, go_sem, eI, eB, ↓reduceIte, Nat.reduceEqDiff, Nat.reduceAdd, Nat.reduceLeDiff, Nat.reduceMul, Nat.reduceBEq, Nat.reduceBneDiff, Nat.reduceLT, Nat.reduceSub, decide_true, decide_false, and_self, true_and, and_true, false_and, and_false, not_true_eq_false, not_false_eq_true, false_implies, true_implies, implies_true, ge_iff_le, Bool.false_eq_true, List.cons_append, List.nil_append]
theorem qEquation_refl (m : Eq2) : qEquation m m = true := by simp [qEquation, famExpr.q_refl, famExpr.q_refl]
noncomputable def famEquation : Fam Try.prog eQ 40 42 44 := ⟨szEquation, tEquation, qEquation, fitEquation, szEquation_in, szEquation_fit, qEquation_refl, af40, af42, af44⟩
theorem famEquation_t (x) : famEquation.t x = tEquation x := rfl
theorem law (m : Co) (q : Eq2) : AF Try.prog 6 [eCo m, eQ q] (.own (eB true)) := by
  refine af_of_res res6 mixed rfl fun hbd => ?_
  simp +contextual -implicitDefEqProofs only [rc6, eCo, eG, eS, eI, eB, eQ, famCosts_t, tCosts, famBoolSS_t, famInt64SSS_t, famEquation_t, tEquation, famExpr_t, tE_k, tE_n, tE_nn, tE_ks, bne_self_eq_false, go_sem, ↓reduceIte, Nat.reduceEqDiff, Nat.reduceAdd, Nat.reduceLeDiff, Nat.reduceMul, Nat.reduceBEq, Nat.reduceBneDiff, Nat.reduceLT, Nat.reduceSub, decide_true, decide_false, and_self, true_and, and_true, false_and, and_false, not_true_eq_false, not_false_eq_true, false_implies, true_implies, implies_true, ge_iff_le, Bool.false_eq_true, List.cons_append, List.nil_append]
  refine callQ_self (ds := [eCo m, eI 1048576]) ?_ (famCosts.afS m 1048576 (by omega) (by omega)) ?_
  · simp only [eCo, eG, eS, eI, eB, eQ, famCosts_t, tCosts, famBoolSS_t, famInt64SSS_t, famEquation_t, tEquation, famExpr_t, tE_k, tE_n, tE_nn, tE_ks, bne_self_eq_false]; exact rfl
  simp +contextual -implicitDefEqProofs only [eCo, eG, eS, eI, eB, eQ, famCosts_t, tCosts, famBoolSS_t, famInt64SSS_t, famEquation_t, tEquation, famExpr_t, tE_k, tE_n, tE_nn, tE_ks, bne_self_eq_false, go_sem, ↓reduceIte, Nat.reduceEqDiff, Nat.reduceAdd, Nat.reduceLeDiff, Nat.reduceMul, Nat.reduceBEq, Nat.reduceBneDiff, Nat.reduceLT, Nat.reduceSub, decide_true, decide_false, and_self, true_and, and_true, false_and, and_false, not_true_eq_false, not_false_eq_true, false_implies, true_implies, implies_true, ge_iff_le, Bool.false_eq_true, List.cons_append, List.nil_append]
  have sb0 := famCosts.s_in m 1048576 (by omega) (by omega)
  refine fun hs0 => ?_
  have hf0 := famCosts.s_fit m 1048576 (by omega) (by omega) (by omega)
  refine callQ_self (ds := [eQ q, eI (famCosts.s m 1048576)]) ?_ (famEquation.afS q (famCosts.s m 1048576) (by omega) (by omega)) ?_
  · simp only [eCo, eG, eS, eI, eB, eQ, famCosts_t, tCosts, famBoolSS_t, famInt64SSS_t, famEquation_t, tEquation, famExpr_t, tE_k, tE_n, tE_nn, tE_ks, bne_self_eq_false]; exact rfl
  simp +contextual -implicitDefEqProofs only [eCo, eG, eS, eI, eB, eQ, famCosts_t, tCosts, famBoolSS_t, famInt64SSS_t, famEquation_t, tEquation, famExpr_t, tE_k, tE_n, tE_nn, tE_ks, bne_self_eq_false, go_sem, ↓reduceIte, Nat.reduceEqDiff, Nat.reduceAdd, Nat.reduceLeDiff, Nat.reduceMul, Nat.reduceBEq, Nat.reduceBneDiff, Nat.reduceLT, Nat.reduceSub, decide_true, decide_false, and_self, true_and, and_true, false_and, and_false, not_true_eq_false, not_false_eq_true, false_implies, true_implies, implies_true, ge_iff_le, Bool.false_eq_true, List.cons_append, List.nil_append]
  have sb1 := famEquation.s_in q (famCosts.s m 1048576) (by omega) (by omega)
  refine fun hs1 => ?_
  have hf1 := famEquation.s_fit q (famCosts.s m 1048576) (by omega) (by omega) (by omega)
  refine callQ_self (ds := [eCo m]) ?_ (famCosts.afT m hf0) ?_
  · simp only [eCo, eG, eS, eI, eB, eQ, famCosts_t, tCosts, famBoolSS_t, famInt64SSS_t, famEquation_t, tEquation, famExpr_t, tE_k, tE_n, tE_nn, tE_ks, bne_self_eq_false]; exact rfl
  simp +contextual -implicitDefEqProofs only [eCo, eG, eS, eI, eB, eQ, famCosts_t, tCosts, famBoolSS_t, famInt64SSS_t, famEquation_t, tEquation, famExpr_t, tE_k, tE_n, tE_nn, tE_ks, bne_self_eq_false, go_sem, ↓reduceIte, Nat.reduceEqDiff, Nat.reduceAdd, Nat.reduceLeDiff, Nat.reduceMul, Nat.reduceBEq, Nat.reduceBneDiff, Nat.reduceLT, Nat.reduceSub, decide_true, decide_false, and_self, true_and, and_true, false_and, and_false, not_true_eq_false, not_false_eq_true, false_implies, true_implies, implies_true, ge_iff_le, Bool.false_eq_true, List.cons_append, List.nil_append]
  refine callQ_self (ds := [eQ q]) ?_ (famEquation.afT q hf1) ?_
  · simp only [eCo, eG, eS, eI, eB, eQ, famCosts_t, tCosts, famBoolSS_t, famInt64SSS_t, famEquation_t, tEquation, famExpr_t, tE_k, tE_n, tE_nn, tE_ks, bne_self_eq_false]; exact rfl
  simp +contextual -implicitDefEqProofs only [eCo, eG, eS, eI, eB, eQ, famCosts_t, tCosts, famBoolSS_t, famInt64SSS_t, famEquation_t, tEquation, famExpr_t, tE_k, tE_n, tE_nn, tE_ks, bne_self_eq_false, go_sem, ↓reduceIte, Nat.reduceEqDiff, Nat.reduceAdd, Nat.reduceLeDiff, Nat.reduceMul, Nat.reduceBEq, Nat.reduceBneDiff, Nat.reduceLT, Nat.reduceSub, decide_true, decide_false, and_self, true_and, and_true, false_and, and_false, not_true_eq_false, not_false_eq_true, false_implies, true_implies, implies_true, ge_iff_le, Bool.false_eq_true, List.cons_append, List.nil_append]
  have hsp := af41 (famCosts.t m) (famEquation.t q)
  have him := af43 (famCosts.t m) (famEquation.t q)
  have hqM := famCosts.afQ (famCosts.t m) (famCosts.t m)
  rw [famCosts.q_refl] at hqM
  have hqQ := famEquation.afQ (famEquation.t q) (famEquation.t q)
  rw [famEquation.q_refl] at hqQ
  generalize holdsC (famCosts.t m) (famEquation.t q) = r at hsp him
  obtain ⟨r, c⟩ := r
  simp only at hsp him
  refine callQ_self (ds := [eCo (famCosts.t m), eQ (famEquation.t q)]) ?_ (hsp) ?_
  · simp only [eCo, eG, eS, eI, eB, eQ, famCosts_t, tCosts, famBoolSS_t, famInt64SSS_t, famEquation_t, tEquation, famExpr_t, tE_k, tE_n, tE_nn, tE_ks, bne_self_eq_false]; exact rfl
  simp +contextual -implicitDefEqProofs only [eCo, eG, eS, eI, eB, eQ, famCosts_t, tCosts, famBoolSS_t, famInt64SSS_t, famEquation_t, tEquation, famExpr_t, tE_k, tE_n, tE_nn, tE_ks, bne_self_eq_false, go_sem, ↓reduceIte, Nat.reduceEqDiff, Nat.reduceAdd, Nat.reduceLeDiff, Nat.reduceMul, Nat.reduceBEq, Nat.reduceBneDiff, Nat.reduceLT, Nat.reduceSub, decide_true, decide_false, and_self, true_and, and_true, false_and, and_false, not_true_eq_false, not_false_eq_true, false_implies, true_implies, implies_true, ge_iff_le, Bool.false_eq_true, List.cons_append, List.nil_append]
  refine callQ_self (ds := [eCo m]) ?_ (famCosts.afT m hf0) ?_
  · simp only [eCo, eG, eS, eI, eB, eQ, famCosts_t, tCosts, famBoolSS_t, famInt64SSS_t, famEquation_t, tEquation, famExpr_t, tE_k, tE_n, tE_nn, tE_ks, bne_self_eq_false]; exact rfl
  simp +contextual -implicitDefEqProofs only [eCo, eG, eS, eI, eB, eQ, famCosts_t, tCosts, famBoolSS_t, famInt64SSS_t, famEquation_t, tEquation, famExpr_t, tE_k, tE_n, tE_nn, tE_ks, bne_self_eq_false, go_sem, ↓reduceIte, Nat.reduceEqDiff, Nat.reduceAdd, Nat.reduceLeDiff, Nat.reduceMul, Nat.reduceBEq, Nat.reduceBneDiff, Nat.reduceLT, Nat.reduceSub, decide_true, decide_false, and_self, true_and, and_true, false_and, and_false, not_true_eq_false, not_false_eq_true, false_implies, true_implies, implies_true, ge_iff_le, Bool.false_eq_true, List.cons_append, List.nil_append]
  refine callQ_self (ds := [eQ q]) ?_ (famEquation.afT q hf1) ?_
  · simp only [eCo, eG, eS, eI, eB, eQ, famCosts_t, tCosts, famBoolSS_t, famInt64SSS_t, famEquation_t, tEquation, famExpr_t, tE_k, tE_n, tE_nn, tE_ks, bne_self_eq_false]; exact rfl
  simp +contextual -implicitDefEqProofs only [eCo, eG, eS, eI, eB, eQ, famCosts_t, tCosts, famBoolSS_t, famInt64SSS_t, famEquation_t, tEquation, famExpr_t, tE_k, tE_n, tE_nn, tE_ks, bne_self_eq_false, go_sem, ↓reduceIte, Nat.reduceEqDiff, Nat.reduceAdd, Nat.reduceLeDiff, Nat.reduceMul, Nat.reduceBEq, Nat.reduceBneDiff, Nat.reduceLT, Nat.reduceSub, decide_true, decide_false, and_self, true_and, and_true, false_and, and_false, not_true_eq_false, not_false_eq_true, false_implies, true_implies, implies_true, ge_iff_le, Bool.false_eq_true, List.cons_append, List.nil_append]
  refine callQ_self (ds := [eCo (famCosts.t m), eQ (famEquation.t q)]) ?_ (him) ?_
  · simp only [eCo, eG, eS, eI, eB, eQ, famCosts_t, tCosts, famBoolSS_t, famInt64SSS_t, famEquation_t, tEquation, famExpr_t, tE_k, tE_n, tE_nn, tE_ks, bne_self_eq_false]; exact rfl
  simp +contextual -implicitDefEqProofs only [eCo, eG, eS, eI, eB, eQ, famCosts_t, tCosts, famBoolSS_t, famInt64SSS_t, famEquation_t, tEquation, famExpr_t, tE_k, tE_n, tE_nn, tE_ks, bne_self_eq_false, go_sem, ↓reduceIte, Nat.reduceEqDiff, Nat.reduceAdd, Nat.reduceLeDiff, Nat.reduceMul, Nat.reduceBEq, Nat.reduceBneDiff, Nat.reduceLT, Nat.reduceSub, decide_true, decide_false, and_self, true_and, and_true, false_and, and_false, not_true_eq_false, not_false_eq_true, false_implies, true_implies, implies_true, ge_iff_le, Bool.false_eq_true, List.cons_append, List.nil_append]
  refine callQ_self (ds := [eCo m]) ?_ (famCosts.afT m hf0) ?_
  · simp only [eCo, eG, eS, eI, eB, eQ, famCosts_t, tCosts, famBoolSS_t, famInt64SSS_t, famEquation_t, tEquation, famExpr_t, tE_k, tE_n, tE_nn, tE_ks, bne_self_eq_false]; exact rfl
  simp +contextual -implicitDefEqProofs only [eCo, eG, eS, eI, eB, eQ, famCosts_t, tCosts, famBoolSS_t, famInt64SSS_t, famEquation_t, tEquation, famExpr_t, tE_k, tE_n, tE_nn, tE_ks, bne_self_eq_false, go_sem, ↓reduceIte, Nat.reduceEqDiff, Nat.reduceAdd, Nat.reduceLeDiff, Nat.reduceMul, Nat.reduceBEq, Nat.reduceBneDiff, Nat.reduceLT, Nat.reduceSub, decide_true, decide_false, and_self, true_and, and_true, false_and, and_false, not_true_eq_false, not_false_eq_true, false_implies, true_implies, implies_true, ge_iff_le, Bool.false_eq_true, List.cons_append, List.nil_append]
  refine callQ_self (ds := [eCo (famCosts.t m), eCo (famCosts.t m)]) ?_ (hqM) ?_
  · simp only [eCo, eG, eS, eI, eB, eQ, famCosts_t, tCosts, famBoolSS_t, famInt64SSS_t, famEquation_t, tEquation, famExpr_t, tE_k, tE_n, tE_nn, tE_ks, bne_self_eq_false]; exact rfl
  simp +contextual -implicitDefEqProofs only [Bool.not_true, eCo, eG, eS, eI, eB, eQ, famCosts_t, tCosts, famBoolSS_t, famInt64SSS_t, famEquation_t, tEquation, famExpr_t, tE_k, tE_n, tE_nn, tE_ks, bne_self_eq_false, go_sem, ↓reduceIte, Nat.reduceEqDiff, Nat.reduceAdd, Nat.reduceLeDiff, Nat.reduceMul, Nat.reduceBEq, Nat.reduceBneDiff, Nat.reduceLT, Nat.reduceSub, decide_true, decide_false, and_self, true_and, and_true, false_and, and_false, not_true_eq_false, not_false_eq_true, false_implies, true_implies, implies_true, ge_iff_le, Bool.false_eq_true, List.cons_append, List.nil_append]
  refine callQ_self (ds := [eQ q]) ?_ (famEquation.afT q hf1) ?_
  · simp only [eCo, eG, eS, eI, eB, eQ, famCosts_t, tCosts, famBoolSS_t, famInt64SSS_t, famEquation_t, tEquation, famExpr_t, tE_k, tE_n, tE_nn, tE_ks, bne_self_eq_false]; exact rfl
  simp +contextual -implicitDefEqProofs only [eCo, eG, eS, eI, eB, eQ, famCosts_t, tCosts, famBoolSS_t, famInt64SSS_t, famEquation_t, tEquation, famExpr_t, tE_k, tE_n, tE_nn, tE_ks, bne_self_eq_false, go_sem, ↓reduceIte, Nat.reduceEqDiff, Nat.reduceAdd, Nat.reduceLeDiff, Nat.reduceMul, Nat.reduceBEq, Nat.reduceBneDiff, Nat.reduceLT, Nat.reduceSub, decide_true, decide_false, and_self, true_and, and_true, false_and, and_false, not_true_eq_false, not_false_eq_true, false_implies, true_implies, implies_true, ge_iff_le, Bool.false_eq_true, List.cons_append, List.nil_append]
  refine callQ_self (ds := [eQ (famEquation.t q), eQ (famEquation.t q)]) ?_ (hqQ) ?_
  · simp only [eCo, eG, eS, eI, eB, eQ, famCosts_t, tCosts, famBoolSS_t, famInt64SSS_t, famEquation_t, tEquation, famExpr_t, tE_k, tE_n, tE_nn, tE_ks, bne_self_eq_false]; exact rfl
  simp +contextual -implicitDefEqProofs only [Bool.not_true, eCo, eG, eS, eI, eB, eQ, famCosts_t, tCosts, famBoolSS_t, famInt64SSS_t, famEquation_t, tEquation, famExpr_t, tE_k, tE_n, tE_nn, tE_ks, bne_self_eq_false, go_sem, ↓reduceIte, Nat.reduceEqDiff, Nat.reduceAdd, Nat.reduceLeDiff, Nat.reduceMul, Nat.reduceBEq, Nat.reduceBneDiff, Nat.reduceLT, Nat.reduceSub, decide_true, decide_false, and_self, true_and, and_true, false_and, and_false, not_true_eq_false, not_false_eq_true, false_implies, true_implies, implies_true, ge_iff_le, Bool.false_eq_true, List.cons_append, List.nil_append]
end Go.Ax
