/- Contracts of functions of the seat, proved over the engine. No condition. -/
import Derived.Test.YtjnghfepojipiaaX77
import Derived.Test.YtjnghfepojipiaaX78
import Derived.Test.YtjnghfepojipiaaAxI
import Derived.Test.YtjnghfepojipiaaChecked
set_option linter.unusedSimpArgs false
set_option linter.unusedVariables false
set_option linter.unnecessarySimpa false
namespace Go.Ax
set_option linter.unusedSimpArgs false
open Go.Proofs
theorem mixed : Try.prog.follows .mixedOrders = true := by kernel_rfl
theorem res41 : resF Try.prog 41 = some (27, cSzC 40 3 true, [.t 4]) := by kernel_rfl
theorem res40 : resF Try.prog 40 = some (12, k_szExpr 41, [.t 4]) := by kernel_rfl

def rc24 : RC := (.seq (.reg false [⟨none, .box 2 6 (.t 0)⟩, ⟨none, .mv 4 (.c (.sc (.int .i64 0)))⟩]) ((.seq (.reg false [⟨none, .fa 5 0 (.t 2)⟩, ⟨none, .ld 6 true 3 (.t 5)⟩, ⟨none, .mv 7 (.t 1)⟩, ⟨none, .call (some 8) 40 [(.t 6), (.t 7)]⟩, ⟨none, .mv 1 (.t 8)⟩]) ((.seq ((.seq (.reg false [⟨none, .mv 9 (.t 1)⟩, ⟨none, .bin 10 .lss (.t 9) (.c (.sc (.int .i64 0)))⟩]) (.cond (.t 10) ((.seq (.reg false [⟨none, .mv 4 (.c (.sc (.int .i64 (-1))))⟩]) (.ret))) (.skip)))) ((.seq (.reg false [⟨none, .fa 11 3 (.t 2)⟩, ⟨none, .ld 12 true 3 (.t 11)⟩, ⟨none, .mv 13 (.t 1)⟩, ⟨none, .call (some 14) 40 [(.t 12), (.t 13)]⟩, ⟨none, .mv 1 (.t 14)⟩]) ((.seq ((.seq (.reg false [⟨none, .mv 15 (.t 1)⟩, ⟨none, .bin 16 .lss (.t 15) (.c (.sc (.int .i64 0)))⟩]) (.cond (.t 16) ((.seq (.reg false [⟨none, .mv 4 (.c (.sc (.int .i64 (-1))))⟩]) (.ret))) (.skip)))) ((.seq (.reg false [⟨none, .mv 17 (.t 1)⟩, ⟨none, .mv 4 (.t 17)⟩]) (.ret))))))))))))
theorem res24 : resF Try.prog 24 = some (18, rc24, [.t 4]) := by kernel_rfl
theorem res26 : resF Try.prog 26 = some (11, k_toSig, [.c 2 2 true]) := by kernel_rfl
theorem af26 : K_toSig Try.prog 26 := a_toSig mixed res26
theorem res44 : resF Try.prog 44 = some (23, cToC 43 3 40 true (.ag [(.sc (.int .i64 0)), (.sc (.int .i64 0)), (.ls (some true) 3 [])]), [.t 2]) := by kernel_rfl
theorem res43 : resF Try.prog 43 = some (15, k_toExpr 44, [.c 2 3 true]) := by kernel_rfl

def rc27 : RC := (.seq (.reg false [⟨none, .box 1 6 (.t 0)⟩, ⟨none, .zer 2 6 (.ag [(.sc (.int .i64 0)), (.sc (.int .i64 0)), (.ls (some true) 3 []), (.sc (.int .i64 0)), (.sc (.int .i64 0)), (.ls (some true) 3 [])])⟩]) ((.seq (.reg false [⟨none, .zer 3 6 (.ag [(.sc (.int .i64 0)), (.sc (.int .i64 0)), (.ls (some true) 3 []), (.sc (.int .i64 0)), (.sc (.int .i64 0)), (.ls (some true) 3 [])])⟩]) ((.seq (.reg false [⟨none, .fa 4 0 (.t 1)⟩, ⟨none, .ld 5 true 3 (.t 4)⟩, ⟨none, .call (some 6) 43 [(.t 5)]⟩, ⟨none, .fa 7 0 (.t 3)⟩, ⟨none, .st 3 (.t 7) (.t 6)⟩]) ((.seq (.reg false [⟨none, .fa 8 3 (.t 1)⟩, ⟨none, .ld 9 true 3 (.t 8)⟩, ⟨none, .call (some 10) 43 [(.t 9)]⟩, ⟨none, .fa 11 3 (.t 3)⟩, ⟨none, .st 3 (.t 11) (.t 10)⟩]) ((.seq (.reg false [⟨none, .ld 12 true 6 (.t 3)⟩, ⟨none, .st 6 (.t 2) (.t 12)⟩]) (.ret))))))))))
theorem res27 : resF Try.prog 27 = some (13, rc27, [.c 2 6 true]) := by kernel_rfl
theorem res109 : resF Try.prog 109 = some (15, k_l00In, [.t 6]) := by kernel_rfl
theorem af109 : K_l00In Try.prog 109 := a_l00In mixed res109
theorem res130 : resF Try.prog 130 = some (11, k_l01Sig 109, [.t 2]) := by kernel_rfl
theorem af130 : K_l01Sig Try.prog 130 := a_l01Sig mixed res130 af109
theorem res221 : resF Try.prog 221 = some (30, k_l01Left 221, [.t 4]) := by kernel_rfl
theorem af221 : K_l01Left Try.prog 221 := a_l01Left mixed res221
theorem res224 : resF Try.prog 224 = some (10, k_l00Max, [.t 4]) := by kernel_rfl
theorem af224 : K_l00Max Try.prog 224 := a_l00Max mixed res224
theorem res222 : resF Try.prog 222 = some (25, k_l01Depth 222 224, [.t 2]) := by kernel_rfl
theorem af222 : K_l01Depth Try.prog 222 := a_l01Depth mixed res222 af224
theorem res275 : resF Try.prog 275 = some (15, k_l01Kids, [.t 2]) := by kernel_rfl
theorem af275 : K_l01Kids Try.prog 275 := a_l01Kids mixed res275
theorem res157 : resF Try.prog 157 = some (34, k_l01Condition 157 109, [.t 2]) := by kernel_rfl
theorem af157 : K_l01Condition Try.prog 157 := a_l01Condition mixed res157 af109
theorem res223 : resF Try.prog 223 = some (80, k_l01Tree 223 275 109 157, [.t 4]) := by kernel_rfl
theorem af223 : K_l01Tree Try.prog 223 := a_l01Tree mixed res223 af275 af109 af157
theorem res131 : resF Try.prog 131 = some (22, k_l01Ok 130 221 222 223, [.t 4]) := by kernel_rfl
theorem af131 : K_l01Ok Try.prog 131 := a_l01Ok mixed res131 af130 af221 af222 af223
theorem res108 : resF Try.prog 108 = some (17, k_l04Equation 131, [.t 4]) := by kernel_rfl
theorem af108 : K_l04Equation Try.prog 108 := a_l04Equation mixed res108 af131
theorem res110 : resF Try.prog 110 = some (16, k_l05BitsOf, [.t 4]) := by kernel_rfl
theorem af110 : K_l05BitsOf Try.prog 110 := a_l05BitsOf mixed res110
theorem res111 : resF Try.prog 111 = some (87, k_l05Numbered, [.c 6 5 true]) := by kernel_rfl
theorem af111 : K_l05Numbered Try.prog 111 := a_l05Numbered mixed res111
theorem res175 : resF Try.prog 175 = some (17, k_l05None, [.t 2]) := by kernel_rfl
theorem af175 : K_l05None Try.prog 175 := a_l05None mixed res175
theorem res191 : resF Try.prog 191 = some (62, k_l05Dot 175, [.t 4]) := by kernel_rfl
theorem af191 : K_l05Dot Try.prog 191 := a_l05Dot mixed res191 af175
theorem res205 : resF Try.prog 205 = some (82, k_l05Star 175, [.t 2]) := by kernel_rfl
theorem af205 : K_l05Star Try.prog 205 := a_l05Star mixed res205 af175
theorem res113 : resF Try.prog 113 = some (201, k_l05Rel 113 175 191 205, [.t 4]) := by kernel_rfl
theorem af113 : K_l05Rel Try.prog 113 := a_l05Rel mixed res113 af175 af191 af205
theorem res204 : resF Try.prog 204 = some (26, cEqB, [.t 4]) := by kernel_rfl
theorem res112 : resF Try.prog 112 = some (27, k_l05SameRows 204, [.t 4]) := by kernel_rfl
theorem af112 : K_l05SameRows Try.prog 112 := a_l05SameRows mixed res112 res204
theorem res25 : resF Try.prog 25 = some (50, k_spFirst 108 109 110 111 113 112, [.c 6 5 true, .t 7]) := by kernel_rfl
theorem af25 : K_spFirst Try.prog 25 := a_spFirst mixed res25 af108 af109 af110 af111 af113 af112
theorem res276 : resF Try.prog 276 = some (15, k_kidsOf, [.t 2]) := by kernel_rfl
theorem af276 : K_kidsOf Try.prog 276 := a_kidsOf mixed res276
theorem res115 : resF Try.prog 115 = some (15, k_within, [.t 6]) := by kernel_rfl
theorem af115 : K_within Try.prog 115 := a_within mixed res115
theorem res227 : resF Try.prog 227 = some (25, k_isCondition 227, [.t 2]) := by kernel_rfl
theorem af227 : K_isCondition Try.prog 227 := a_isCondition mixed res227
theorem res226 : resF Try.prog 226 = some (86, k_shaped 226 276 115 227, [.t 8, .t 9]) := by kernel_rfl
theorem af226 : K_shaped Try.prog 226 := a_shaped mixed res226 af276 af115 af227
theorem res139 : resF Try.prog 139 = some (14, k_isExpr 226, [.t 4]) := by kernel_rfl
theorem af139 : K_isExpr Try.prog 139 := a_isExpr mixed res139 af226
theorem res138 : resF Try.prog 138 = some (11, k_validSig 115, [.t 2]) := by kernel_rfl
theorem af138 : K_validSig Try.prog 138 := a_validSig mixed res138 af115
theorem res141 : resF Try.prog 141 = some (20, k_validExprs 139 138, [.t 4]) := by kernel_rfl
theorem af141 : K_validExprs Try.prog 141 := a_validExprs mixed res141 af139 af138
theorem res114 : resF Try.prog 114 = some (12, k_imValidEquation 141, [.t 4]) := by kernel_rfl
theorem af114 : K_imValidEquation Try.prog 114 := a_imValidEquation mixed res114 af141
theorem res173w : resFw Try.prog .yes 173 = some (33, k_tableBW, [.t 4]) := by kernel_rfl
theorem af173w : K_tableBW Try.prog 173 := a_tableBW mixed res173w
theorem res206 : resF Try.prog 206 = some (9, k_num1, [.t 1]) := by kernel_rfl
theorem af206 : K_num1 Try.prog 206 := a_num1 mixed res206
theorem res207 : resFw Try.prog .yes 207 = some (8, k_num2, [.t 5]) := by kernel_rfl
theorem af207 : K_num2 Try.prog 207 := a_num2 mixed res207
theorem res116 : resFw Try.prog .yes 116 = some (49, k_numbered 173 206 207, [.c 6 5 true]) := by kernel_rfl
theorem af116 : K_numbered Try.prog 116 := a_numbered mixed res116 af173w af206 af207
theorem res173 : resF Try.prog 173 = some (33, k_tableB, [.t 4]) := by kernel_rfl
theorem af173 : K_tableB Try.prog 173 := a_tableB mixed res173
theorem res257 : resF Try.prog 257 = some (30, k_composed1, [.t 6]) := by kernel_rfl
theorem af257 : K_composed1 Try.prog 257 := a_composed1 mixed res257
theorem res188 : resF Try.prog 188 = some (9, k_composed 173 257, [.t 4]) := by kernel_rfl
theorem af188 : K_composed Try.prog 188 := a_composed mixed res188 af173 af257
theorem res210 : resF Try.prog 210 = some (19, k_relation1, [.t 6]) := by kernel_rfl
theorem af210 : K_relation1 Try.prog 210 := a_relation1 mixed res210
theorem res211 : resF Try.prog 211 = some (20, k_relation2, [.t 5]) := by kernel_rfl
theorem af211 : K_relation2 Try.prog 211 := a_relation2 mixed res211
theorem res212 : resF Try.prog 212 = some (70, k_relation3, [.t 7]) := by kernel_rfl
theorem af212 : K_relation3 Try.prog 212 := a_relation3 mixed res212
theorem res118 : resF Try.prog 118 = some (60, k_relation 118 173 188 210 211 212, [.t 4]) := by kernel_rfl
theorem af118 : K_relation Try.prog 118 := a_relation mixed res118 af173 af188 af210 af211 af212
theorem res208 : resF Try.prog 208 = some (32, cEfS 1, [.t 6]) := by kernel_rfl
theorem res209 : resF Try.prog 209 = some (26, cSeB, [.t 4]) := by kernel_rfl
theorem res117 : resF Try.prog 117 = some (8, k_sameRowsB 208 209, [.t 4]) := by kernel_rfl
theorem af117 : K_sameRowsB Try.prog 117 := a_sameRowsB mixed res117 res208 res209
theorem res28 : resF Try.prog 28 = some (70, k_imFirst 114 115 116 118 117, [.c 6 5 true, .t 7]) := by kernel_rfl
theorem af28 : K_imFirst Try.prog 28 := a_imFirst mixed res28 af114 af115 af116 af118 af117
theorem res101 : resF Try.prog 101 = some (15, k_eqSig, [.t 4]) := by kernel_rfl
theorem af101 : K_eqSig Try.prog 101 := a_eqSig mixed res101
theorem res201 : resF Try.prog 201 = some (26, cEqB, [.t 4]) := by kernel_rfl
theorem res102 : resF Try.prog 102 = some (27, cEqC 201 1 false, [.t 4]) := by kernel_rfl
theorem res103 : resF Try.prog 103 = some (27, cEqC 102 1 false, [.t 4]) := by kernel_rfl

def rc19 : RC := (.seq (.reg false [⟨none, .box 2 5 (.t 0)⟩, ⟨none, .box 3 5 (.t 1)⟩, ⟨none, .mv 4 (.c (.sc (.bool false)))⟩]) ((.seq ((.seq (.reg false [⟨none, .fa 5 0 (.t 2)⟩, ⟨none, .ld 6 true 2 (.t 5)⟩, ⟨none, .fa 7 0 (.t 3)⟩, ⟨none, .ld 8 true 2 (.t 7)⟩, ⟨none, .call (some 9) 101 [(.t 6), (.t 8)]⟩, ⟨none, .un 10 .not (.t 9)⟩]) (.cond (.t 10) ((.seq (.reg false [⟨none, .mv 4 (.c (.sc (.bool false)))⟩]) (.ret))) (.skip)))) ((.seq ((.seq (.reg false [⟨none, .fa 11 2 (.t 2)⟩, ⟨none, .ld 12 false 1 (.t 11)⟩, ⟨none, .fa 13 2 (.t 3)⟩, ⟨none, .ld 14 false 1 (.t 13)⟩, ⟨none, .bin 15 .neq (.t 12) (.t 14)⟩]) (.cond (.t 15) ((.seq (.reg false [⟨none, .mv 4 (.c (.sc (.bool false)))⟩]) (.ret))) (.skip)))) ((.seq ((.seq (.reg false [⟨none, .fa 16 3 (.t 2)⟩, ⟨none, .ld 17 false 1 (.t 16)⟩, ⟨none, .fa 18 3 (.t 3)⟩, ⟨none, .ld 19 false 1 (.t 18)⟩, ⟨none, .call (some 20) 102 [(.t 17), (.t 19)]⟩, ⟨none, .un 21 .not (.t 20)⟩]) (.cond (.t 21) ((.seq (.reg false [⟨none, .mv 4 (.c (.sc (.bool false)))⟩]) (.ret))) (.skip)))) ((.seq ((.seq (.reg false [⟨none, .fa 22 4 (.t 2)⟩, ⟨none, .ld 23 false 1 (.t 22)⟩, ⟨none, .fa 24 4 (.t 3)⟩, ⟨none, .ld 25 false 1 (.t 24)⟩, ⟨none, .call (some 26) 103 [(.t 23), (.t 25)]⟩, ⟨none, .un 27 .not (.t 26)⟩]) (.cond (.t 27) ((.seq (.reg false [⟨none, .mv 4 (.c (.sc (.bool false)))⟩]) (.ret))) (.skip)))) ((.seq (.reg false [⟨none, .mv 4 (.c (.sc (.bool true)))⟩]) (.ret))))))))))))
theorem res19 : resF Try.prog 19 = some (28, rc19, [.t 4]) := by kernel_rfl
theorem res47 : resF Try.prog 47 = some (27, cEqC 46 3 true, [.t 4]) := by kernel_rfl
theorem res46 : resF Try.prog 46 = some (21, k_eqExpr 47, [.t 4]) := by kernel_rfl

def rc29 : RC := (.seq (.reg false [⟨none, .box 2 6 (.t 0)⟩, ⟨none, .box 3 6 (.t 1)⟩, ⟨none, .mv 4 (.c (.sc (.bool false)))⟩]) ((.seq ((.seq (.reg false [⟨none, .fa 5 0 (.t 2)⟩, ⟨none, .ld 6 true 3 (.t 5)⟩, ⟨none, .fa 7 0 (.t 3)⟩, ⟨none, .ld 8 true 3 (.t 7)⟩, ⟨none, .call (some 9) 46 [(.t 6), (.t 8)]⟩, ⟨none, .un 10 .not (.t 9)⟩]) (.cond (.t 10) ((.seq (.reg false [⟨none, .mv 4 (.c (.sc (.bool false)))⟩]) (.ret))) (.skip)))) ((.seq ((.seq (.reg false [⟨none, .fa 11 3 (.t 2)⟩, ⟨none, .ld 12 true 3 (.t 11)⟩, ⟨none, .fa 13 3 (.t 3)⟩, ⟨none, .ld 14 true 3 (.t 13)⟩, ⟨none, .call (some 15) 46 [(.t 12), (.t 14)]⟩, ⟨none, .un 16 .not (.t 15)⟩]) (.cond (.t 16) ((.seq (.reg false [⟨none, .mv 4 (.c (.sc (.bool false)))⟩]) (.ret))) (.skip)))) ((.seq (.reg false [⟨none, .mv 4 (.c (.sc (.bool true)))⟩]) (.ret))))))))
theorem res29 : resF Try.prog 29 = some (17, rc29, [.t 4]) := by kernel_rfl
theorem res203 : resF Try.prog 203 = some (23, cHdB, [.t 4]) := by kernel_rfl
theorem res106 : resF Try.prog 106 = some (21, cHdC 203, [.t 4]) := by kernel_rfl
theorem res107 : resF Try.prog 107 = some (21, cHdC 106, [.t 4]) := by kernel_rfl

def rc23 : RC := (.seq (.reg false [⟨none, .box 2 5 (.t 0)⟩, ⟨none, .mv 4 (.c (.sc (.int .i64 0)))⟩]) ((.seq (.reg false [⟨none, .fa 5 3 (.t 2)⟩, ⟨none, .ld 6 false 1 (.t 5)⟩, ⟨none, .mv 7 (.t 1)⟩, ⟨none, .call (some 8) 106 [(.t 6), (.t 7)]⟩, ⟨none, .mv 1 (.t 8)⟩]) ((.seq ((.seq (.reg false [⟨none, .mv 9 (.t 1)⟩, ⟨none, .bin 10 .lss (.t 9) (.c (.sc (.int .i64 0)))⟩]) (.cond (.t 10) ((.seq (.reg false [⟨none, .mv 4 (.c (.sc (.int .i64 (-1))))⟩]) (.ret))) (.skip)))) ((.seq (.reg false [⟨none, .fa 11 4 (.t 2)⟩, ⟨none, .ld 12 false 1 (.t 11)⟩, ⟨none, .mv 13 (.t 1)⟩, ⟨none, .call (some 14) 107 [(.t 12), (.t 13)]⟩, ⟨none, .mv 1 (.t 14)⟩]) ((.seq ((.seq (.reg false [⟨none, .mv 15 (.t 1)⟩, ⟨none, .bin 16 .lss (.t 15) (.c (.sc (.int .i64 0)))⟩]) (.cond (.t 16) ((.seq (.reg false [⟨none, .mv 4 (.c (.sc (.int .i64 (-1))))⟩]) (.ret))) (.skip)))) ((.seq (.reg false [⟨none, .mv 17 (.t 1)⟩, ⟨none, .mv 4 (.t 17)⟩]) (.ret))))))))))))
theorem res23 : resF Try.prog 23 = some (18, rc23, [.t 4]) := by kernel_rfl
theorem res49 : resF Try.prog 49 = some (34, k_markExprS 49, [.t 4]) := by kernel_rfl
theorem af49 : K_markExprS Try.prog 49 := a_markExprS mixed res49
theorem res48 : resF Try.prog 48 = some (10, k_markExpr 49, [.t 4]) := by kernel_rfl
theorem af48 : K_markExpr Try.prog 48 := a_markExpr mixed res48 af49
theorem res30 : resF Try.prog 30 = some (14, k_markEquation 48, [.t 4]) := by kernel_rfl
theorem af30 : K_markEquation Try.prog 30 := a_markEquation mixed res30 af48
theorem res202 : resF Try.prog 202 = some (21, cMkB, [.t 4]) := by kernel_rfl
theorem res104 : resF Try.prog 104 = some (19, cMkC 202, [.t 4]) := by kernel_rfl
theorem res105 : resF Try.prog 105 = some (19, cMkC 104, [.t 4]) := by kernel_rfl

def rc21 : RC := (.seq (.reg false [⟨none, .box 2 5 (.t 0)⟩, ⟨none, .mv 4 (.c (.sc (.int .i64 0)))⟩]) ((.seq (.reg false [⟨none, .fa 5 3 (.t 2)⟩, ⟨none, .ld 6 false 1 (.t 5)⟩, ⟨none, .mv 7 (.t 1)⟩, ⟨none, .mcl 8 104 (.t 6) (.t 7)⟩, ⟨none, .mv 1 (.t 8)⟩]) ((.seq (.reg false [⟨none, .fa 9 4 (.t 2)⟩, ⟨none, .ld 10 false 1 (.t 9)⟩, ⟨none, .mv 11 (.t 1)⟩, ⟨none, .mcl 12 105 (.t 10) (.t 11)⟩, ⟨none, .mv 1 (.t 12)⟩]) ((.seq (.reg false [⟨none, .mv 13 (.t 1)⟩, ⟨none, .mv 4 (.t 13)⟩]) (.ret))))))))
theorem res21 : resF Try.prog 21 = some (14, rc21, [.t 4]) := by kernel_rfl

def rc4 : RC := (.seq (.reg false [⟨none, .box 3 2 (.t 0)⟩, ⟨none, .box 4 6 (.t 1)⟩, ⟨none, .mv 6 (.c (.sc (.bool false)))⟩]) ((.seq (.reg false [⟨none, .mv 7 (.c (.sc (.int .i64 1048576)))⟩]) ((.seq (.reg false [⟨none, .ld 18 true 6 (.t 4)⟩, ⟨none, .mv 19 (.t 7)⟩, ⟨none, .call (some 20) 24 [(.t 18), (.t 19)]⟩, ⟨none, .mv 7 (.t 20)⟩]) ((.seq ((.seq (.reg false [⟨none, .mv 21 (.t 7)⟩, ⟨none, .bin 22 .lss (.t 21) (.c (.sc (.int .i64 0)))⟩]) (.cond (.t 22) ((.seq (.reg false [⟨none, .mv 6 (.c (.sc (.bool true)))⟩]) (.ret))) (.skip)))) ((.seq (.reg true [⟨none, .ld 24 true 2 (.t 3)⟩, ⟨none, .call (some 25) 26 [(.t 24)]⟩, ⟨none, .ld 26 true 6 (.t 4)⟩, ⟨none, .call (some 27) 27 [(.t 26)]⟩, ⟨none, .mv 28 (.t 2)⟩, ⟨none, .call (some 29) 25 [(.t 25), (.t 27), (.t 28)]⟩, ⟨none, .mv 23 (.t 29)⟩, ⟨none, .ext 30 (.t 23) 0⟩, ⟨none, .ext 31 (.t 23) 1⟩, ⟨none, .zer 8 5 (.ag [(.sc (.int .i64 0)), (.sc (.int .i64 0)), (.sc (.int .i64 0)), (.ls (some true) 1 []), (.ls (some true) 1 [])])⟩, ⟨none, .st 5 (.t 8) (.t 30)⟩, ⟨none, .mv 9 (.t 31)⟩]) ((.seq (.reg false [⟨none, .ld 32 true 6 (.t 4)⟩, ⟨none, .call (some 33) 27 [(.t 32)]⟩, ⟨none, .zer 10 6 (.ag [(.sc (.int .i64 0)), (.sc (.int .i64 0)), (.ls (some true) 3 []), (.sc (.int .i64 0)), (.sc (.int .i64 0)), (.ls (some true) 3 [])])⟩, ⟨none, .st 6 (.t 10) (.t 33)⟩]) ((.seq (.reg true [⟨none, .ld 35 true 2 (.t 3)⟩, ⟨none, .call (some 36) 26 [(.t 35)]⟩, ⟨none, .ld 37 true 6 (.t 10)⟩, ⟨none, .mv 38 (.t 2)⟩, ⟨none, .call (some 39) 28 [(.t 36), (.t 37), (.t 38)]⟩, ⟨none, .mv 34 (.t 39)⟩, ⟨none, .ext 40 (.t 34) 0⟩, ⟨none, .ext 41 (.t 34) 1⟩, ⟨none, .zer 11 5 (.ag [(.sc (.int .i64 0)), (.sc (.int .i64 0)), (.sc (.int .i64 0)), (.ls (some true) 1 []), (.ls (some true) 1 [])])⟩, ⟨none, .st 5 (.t 11) (.t 40)⟩, ⟨none, .mv 12 (.t 41)⟩]) ((.seq ((.seq (.reg false [⟨none, .ld 42 true 5 (.t 11)⟩, ⟨none, .ld 43 true 5 (.t 8)⟩, ⟨none, .call (some 44) 19 [(.t 42), (.t 43)]⟩, ⟨none, .un 45 .not (.t 44)⟩, ⟨none, .mv 46 (.t 45)⟩, ⟨some (46, false), .mv 47 (.t 12)⟩, ⟨some (46, false), .mv 48 (.t 9)⟩, ⟨some (46, false), .bin 49 .neq (.t 47) (.t 48)⟩, ⟨none, .pick 50 (.t 46) (.c (.sc (.bool true))) (.t 49)⟩]) (.cond (.t 50) ((.seq (.reg false [⟨none, .mv 6 (.c (.sc (.bool false)))⟩]) (.ret))) (.skip)))) ((.seq ((.seq (.reg true [⟨none, .ld 51 true 6 (.t 10)⟩, ⟨none, .ld 52 true 6 (.t 4)⟩, ⟨none, .call (some 53) 27 [(.t 52)]⟩, ⟨none, .call (some 54) 29 [(.t 51), (.t 53)]⟩, ⟨none, .un 55 .not (.t 54)⟩]) (.cond (.t 55) ((.seq (.reg false [⟨none, .mv 6 (.c (.sc (.bool false)))⟩]) (.ret))) (.skip)))) ((.seq (.reg false [⟨none, .mv 13 (.c (.sc (.int .i64 1)))⟩]) ((.seq (.reg false [⟨none, .ld 56 true 6 (.t 10)⟩, ⟨none, .mv 57 (.t 13)⟩, ⟨none, .mcl 58 30 (.t 56) (.t 57)⟩, ⟨none, .mv 13 (.t 58)⟩]) ((.seq ((.seq (.reg false [⟨none, .mv 59 (.t 13)⟩, ⟨none, .bin 60 .lss (.t 59) (.c (.sc (.int .i64 0)))⟩, ⟨none, .mv 61 (.t 60)⟩, ⟨some (61, false), .ld 62 true 5 (.t 11)⟩, ⟨some (61, false), .ld 63 true 5 (.t 8)⟩, ⟨some (61, false), .call (some 64) 19 [(.t 62), (.t 63)]⟩, ⟨some (61, false), .un 65 .not (.t 64)⟩, ⟨none, .pick 66 (.t 61) (.c (.sc (.bool true))) (.t 65)⟩, ⟨none, .mv 67 (.t 66)⟩, ⟨some (67, false), .mv 68 (.t 12)⟩, ⟨some (67, false), .mv 69 (.t 9)⟩, ⟨some (67, false), .bin 70 .neq (.t 68) (.t 69)⟩, ⟨none, .pick 71 (.t 67) (.c (.sc (.bool true))) (.t 70)⟩]) (.cond (.t 71) ((.seq (.reg false [⟨none, .mv 6 (.c (.sc (.bool false)))⟩]) (.ret))) (.skip)))) ((.seq (.reg false [⟨none, .mv 14 (.c (.sc (.int .i64 1)))⟩]) ((.seq (.reg false [⟨none, .ld 72 true 5 (.t 11)⟩, ⟨none, .mv 73 (.t 14)⟩, ⟨none, .mcl 74 21 (.t 72) (.t 73)⟩, ⟨none, .mv 14 (.t 74)⟩]) ((.seq (.reg false [⟨none, .mv 15 (.c (.sc (.int .i64 1)))⟩]) ((.seq (.reg false [⟨none, .ld 75 true 5 (.t 11)⟩, ⟨none, .mv 76 (.t 15)⟩, ⟨none, .call (some 77) 23 [(.t 75), (.t 76)]⟩, ⟨none, .mv 15 (.t 77)⟩]) ((.seq ((.seq (.reg false [⟨none, .mv 78 (.t 15)⟩, ⟨none, .bin 79 .lss (.t 78) (.c (.sc (.int .i64 0)))⟩]) (.cond (.t 79) ((.seq (.reg false [⟨none, .mv 6 (.c (.sc (.bool false)))⟩]) (.ret))) (.skip)))) ((.seq ((.seq (.reg false [⟨none, .mv 80 (.t 15)⟩, ⟨none, .mv 81 (.t 14)⟩, ⟨none, .bin 82 .neq (.t 80) (.t 81)⟩]) (.cond (.t 82) ((.seq (.reg false [⟨none, .mv 6 (.c (.sc (.bool false)))⟩]) (.ret))) (.skip)))) ((.seq (.reg true [⟨none, .ld 84 true 2 (.t 3)⟩, ⟨none, .call (some 85) 26 [(.t 84)]⟩, ⟨none, .ld 86 true 6 (.t 4)⟩, ⟨none, .call (some 87) 27 [(.t 86)]⟩, ⟨none, .mv 88 (.t 2)⟩, ⟨none, .call (some 89) 28 [(.t 85), (.t 87), (.t 88)]⟩, ⟨none, .mv 83 (.t 89)⟩, ⟨none, .ext 90 (.t 83) 0⟩, ⟨none, .ext 91 (.t 83) 1⟩, ⟨none, .zer 16 5 (.ag [(.sc (.int .i64 0)), (.sc (.int .i64 0)), (.sc (.int .i64 0)), (.ls (some true) 1 []), (.ls (some true) 1 [])])⟩, ⟨none, .st 5 (.t 16) (.t 90)⟩, ⟨none, .mv 17 (.t 91)⟩]) ((.seq ((.seq (.reg false [⟨none, .ld 92 true 5 (.t 16)⟩, ⟨none, .ld 93 true 5 (.t 8)⟩, ⟨none, .call (some 94) 19 [(.t 92), (.t 93)]⟩, ⟨none, .un 95 .not (.t 94)⟩, ⟨none, .mv 96 (.t 95)⟩, ⟨some (96, false), .mv 97 (.t 17)⟩, ⟨some (96, false), .mv 98 (.t 9)⟩, ⟨some (96, false), .bin 99 .neq (.t 97) (.t 98)⟩, ⟨none, .pick 100 (.t 96) (.c (.sc (.bool true))) (.t 99)⟩]) (.cond (.t 100) ((.seq (.reg false [⟨none, .mv 6 (.c (.sc (.bool false)))⟩]) (.ret))) (.skip)))) ((.seq (.reg false [⟨none, .mv 15 (.c (.sc (.int .i64 1)))⟩]) ((.seq (.reg false [⟨none, .ld 101 true 5 (.t 11)⟩, ⟨none, .mv 102 (.t 15)⟩, ⟨none, .call (some 103) 23 [(.t 101), (.t 102)]⟩, ⟨none, .mv 15 (.t 103)⟩]) ((.seq ((.seq (.reg false [⟨none, .mv 104 (.t 15)⟩, ⟨none, .bin 105 .lss (.t 104) (.c (.sc (.int .i64 0)))⟩]) (.cond (.t 105) ((.seq (.reg false [⟨none, .mv 6 (.c (.sc (.bool false)))⟩]) (.ret))) (.skip)))) ((.seq ((.seq (.reg false [⟨none, .mv 106 (.t 15)⟩, ⟨none, .mv 107 (.t 14)⟩, ⟨none, .bin 108 .neq (.t 106) (.t 107)⟩]) (.cond (.t 108) ((.seq (.reg false [⟨none, .mv 6 (.c (.sc (.bool false)))⟩]) (.ret))) (.skip)))) ((.seq (.reg false [⟨none, .mv 6 (.c (.sc (.bool true)))⟩]) (.ret))))))))))))))))))))))))))))))))))))))))))))))))))
theorem res4 : resF Try.prog 4 = some (109, rc4, [.t 6]) := by kernel_rfl
theorem res192 : resF Try.prog 192 = some (12, cSzP, [.t 4]) := by kernel_rfl
theorem res89 : resF Try.prog 89 = some (27, cSzC 192 1 false, [.t 4]) := by kernel_rfl
theorem res90 : resF Try.prog 90 = some (27, cSzC 89 1 false, [.t 4]) := by kernel_rfl

def rc14 : RC := (.seq (.reg false [⟨none, .box 2 5 (.t 0)⟩, ⟨none, .mv 4 (.c (.sc (.int .i64 0)))⟩]) ((.seq (.reg false [⟨none, .fa 5 3 (.t 2)⟩, ⟨none, .ld 6 false 1 (.t 5)⟩, ⟨none, .mv 7 (.t 1)⟩, ⟨none, .call (some 8) 89 [(.t 6), (.t 7)]⟩, ⟨none, .mv 1 (.t 8)⟩]) ((.seq ((.seq (.reg false [⟨none, .mv 9 (.t 1)⟩, ⟨none, .bin 10 .lss (.t 9) (.c (.sc (.int .i64 0)))⟩]) (.cond (.t 10) ((.seq (.reg false [⟨none, .mv 4 (.c (.sc (.int .i64 (-1))))⟩]) (.ret))) (.skip)))) ((.seq (.reg false [⟨none, .fa 11 4 (.t 2)⟩, ⟨none, .ld 12 false 1 (.t 11)⟩, ⟨none, .mv 13 (.t 1)⟩, ⟨none, .call (some 14) 90 [(.t 12), (.t 13)]⟩, ⟨none, .mv 1 (.t 14)⟩]) ((.seq ((.seq (.reg false [⟨none, .mv 15 (.t 1)⟩, ⟨none, .bin 16 .lss (.t 15) (.c (.sc (.int .i64 0)))⟩]) (.cond (.t 16) ((.seq (.reg false [⟨none, .mv 4 (.c (.sc (.int .i64 (-1))))⟩]) (.ret))) (.skip)))) ((.seq (.reg false [⟨none, .mv 17 (.t 1)⟩, ⟨none, .mv 4 (.t 17)⟩]) (.ret))))))))))))
theorem res14 : resF Try.prog 14 = some (18, rc14, [.t 4]) := by kernel_rfl
theorem res194 : resF Try.prog 194 = some (22, cToS 1 (.sc (.bool false)), [.t 2]) := by kernel_rfl
theorem res94 : resF Try.prog 94 = some (23, cToC 194 1 24 false (.ls (some true) 1 []), [.t 2]) := by kernel_rfl
theorem res95 : resF Try.prog 95 = some (23, cToC 94 1 24 false (.ls (some true) 1 []), [.t 2]) := by kernel_rfl

def rc16 : RC := (.seq (.reg false [⟨none, .box 1 5 (.t 0)⟩, ⟨none, .zer 2 5 (.ag [(.sc (.int .i64 0)), (.sc (.int .i64 0)), (.sc (.int .i64 0)), (.ls (some true) 1 []), (.ls (some true) 1 [])])⟩]) ((.seq (.reg false [⟨none, .zer 3 5 (.ag [(.sc (.int .i64 0)), (.sc (.int .i64 0)), (.sc (.int .i64 0)), (.ls (some true) 1 []), (.ls (some true) 1 [])])⟩]) ((.seq (.reg false [⟨none, .fa 4 0 (.t 1)⟩, ⟨none, .ld 5 true 2 (.t 4)⟩, ⟨none, .call (some 6) 26 [(.t 5)]⟩, ⟨none, .fa 7 0 (.t 3)⟩, ⟨none, .st 2 (.t 7) (.t 6)⟩]) ((.seq (.reg false [⟨none, .fa 8 2 (.t 1)⟩, ⟨none, .ld 9 false 1 (.t 8)⟩, ⟨none, .fa 10 2 (.t 3)⟩, ⟨none, .st 1 (.t 10) (.t 9)⟩]) ((.seq (.reg false [⟨none, .fa 11 3 (.t 1)⟩, ⟨none, .ld 12 false 1 (.t 11)⟩, ⟨none, .call (some 13) 94 [(.t 12)]⟩, ⟨none, .fa 14 3 (.t 3)⟩, ⟨none, .st 1 (.t 14) (.t 13)⟩]) ((.seq (.reg false [⟨none, .fa 15 4 (.t 1)⟩, ⟨none, .ld 16 false 1 (.t 15)⟩, ⟨none, .call (some 17) 95 [(.t 16)]⟩, ⟨none, .fa 18 4 (.t 3)⟩, ⟨none, .st 1 (.t 18) (.t 17)⟩]) ((.seq (.reg false [⟨none, .ld 19 true 5 (.t 3)⟩, ⟨none, .st 5 (.t 2) (.t 19)⟩]) (.ret))))))))))))))
theorem res16 : resF Try.prog 16 = some (20, rc16, [.c 2 5 true]) := by kernel_rfl
noncomputable def famBoolS : Fam Try.prog (eS 1 eB) 192 194 201 := famP mixed encB noB ⟨rfl, rfl, rfl⟩ (by omega) res192 res194 (eqL fun x y => x == y) (fun _ => eqL_refl fun _ _ => by simp) fun a b => af_eqB mixed res201 a b
theorem famBoolS_t (x) : famBoolS.t x = (some false, x.2) := rfl
noncomputable def famBoolSS : Fam Try.prog (eS 1 (eS 1 eB)) 89 94 102 := famC mixed famBoolS (encS eB 1) ⟨rfl, rfl, rfl⟩ (by omega) res89 res94 res102
theorem famBoolSS_t (x) : famBoolSS.t x = (some false, x.2.map famBoolS.t) := rfl
noncomputable def famBoolSSS : Fam Try.prog (eS 1 (eS 1 (eS 1 eB))) 90 95 103 := famC mixed famBoolSS (encS (eS 1 eB) 1) ⟨rfl, rfl, rfl⟩ (by omega) res90 res95 res103
theorem famBoolSSS_t (x) : famBoolSSS.t x = (some false, x.2.map famBoolSS.t) := rfl
noncomputable def szModel (m : Mo) : Int → Int := fun l => nx (famBoolSS.s m.2.2.1 l) (fun l => nx (famBoolSSS.s m.2.2.2 l) (fun l => l))
def fitModel (m : Mo) : Prop := famBoolSS.fit m.2.2.1 ∧ famBoolSSS.fit m.2.2.2
noncomputable def tModel (m : Mo) : Mo := (m.1, m.2.1, famBoolSS.t m.2.2.1, famBoolSSS.t m.2.2.2)
noncomputable def qModel (a b : Mo) : Bool := (qG a.1 b.1 && ((a.2.1 == b.2.1) && (famBoolSS.q a.2.2.1 b.2.2.1 && famBoolSSS.q a.2.2.2 b.2.2.2)))
theorem szModel_in (m : Mo) (l : Int) (h1 : 0 ≤ l) (h2 : l ≤ 1048576) : -1 ≤ szModel m l ∧ szModel m l ≤ l := by
 refine in_tr (Int.le_refl l) (nx_in (famBoolSS.s_in m.2.2.1 l h1 (by omega)) h1 (by omega) fun y0 a0 b0 => ?_)
 refine in_tr b0 (nx_in (famBoolSSS.s_in m.2.2.2 y0 a0 (by omega)) a0 (by omega) fun y1 a1 b1 => ?_)
 exact ⟨by omega, b1⟩
theorem szModel_fit (m : Mo) (l : Int) (h2 : l ≤ 1048576) (h1 : 0 ≤ l) (h : 0 ≤ szModel m l) : fitModel m := by
 obtain ⟨p0, h⟩ := nx_fit h
 have e0 := famBoolSS.s_fit m.2.2.1 l (by omega) h1 p0
 have b0 := famBoolSS.s_in m.2.2.1 l h1 (by omega)
 obtain ⟨p1, h⟩ := nx_fit h
 have e1 := famBoolSSS.s_fit m.2.2.2 _ (by omega) p0 p1
 have b1 := famBoolSSS.s_in m.2.2.2 (famBoolSS.s m.2.2.1 l) p0 (by omega)
 exact ⟨e0, e1⟩
theorem af14 (m : Mo) (l : Int) (h1 : 0 ≤ l) (h2 : l ≤ 1048576) : AF Try.prog 14 [eM m, eI l] (.own (eI (szModel m l))) := by
 refine af_of_res res14 mixed rfl fun _ => ?_
 simp +contextual -implicitDefEqProofs only [rc14, eM, eS, go_sem, eI, ↓reduceIte, Nat.reduceEqDiff, Nat.reduceAdd, Nat.reduceLeDiff, Nat.reduceLT]
 refine callQ_self ?_ (famBoolSS.afS m.2.2.1 l (by omega) (by omega)) ?_
 ·first | exact rfl | (simp only [eE_eta]; exact rfl)
 simp +contextual -implicitDefEqProofs only [go_sem, eI, ↓reduceIte, Nat.reduceEqDiff, Nat.reduceAdd, Nat.reduceLeDiff, Nat.reduceLT]
 have b0 := famBoolSS.s_in m.2.2.1 l (by omega) (by omega)
 refine ⟨fun h => D.Le.sc_eq (by simp only [szModel]; rw [nx_neg h]), fun g0 => ?_⟩
 refine callQ_self ?_ (famBoolSSS.afS m.2.2.2 (famBoolSS.s m.2.2.1 l) (by omega) (by omega)) ?_
 ·first | exact rfl | (simp only [eE_eta]; exact rfl)
 simp +contextual -implicitDefEqProofs only [go_sem, eI, ↓reduceIte, Nat.reduceEqDiff]
 have b1 := famBoolSSS.s_in m.2.2.2 (famBoolSS.s m.2.2.1 l) (by omega) (by omega)
 refine ⟨fun h => D.Le.sc_eq (by simp only [szModel]; rw [nx_pos g0, nx_neg h]), fun g1 => ?_⟩
 exact D.Le.sc_eq (by simp only [szModel]; rw [nx_pos g0, nx_pos g1])
theorem af16 (m : Mo) (h : fitModel m) : AF Try.prog 16 [eM m] (.own (eM (tModel m))) := by
 refine af_of_res res16 mixed rfl fun _ => ?_
 simp +contextual -implicitDefEqProofs only [rc16, eM, eS, tModel, famBoolSS_t, famBoolSSS_t, go_sem, eI, ↓reduceIte, Nat.reduceEqDiff, Nat.reduceAdd, Nat.reduceLeDiff, Nat.reduceBneDiff, Nat.reduceLT]
 refine callQ_self ?_ (af26 m.1) ?_
 ·first | exact rfl | (simp only [eE_eta]; exact rfl)
 simp +contextual -implicitDefEqProofs only [eG, go_sem, eI, ↓reduceIte, Nat.reduceEqDiff, Nat.reduceAdd, Nat.reduceLeDiff, Nat.reduceLT]
 refine callQ_self ?_ (famBoolSS.afT m.2.2.1 h.1) ?_
 ·first | exact rfl | (simp only [eE_eta]; exact rfl)
 simp +contextual -implicitDefEqProofs only [eS, famBoolSS_t, go_sem, ↓reduceIte, Nat.reduceEqDiff, Nat.reduceAdd, Nat.reduceLeDiff, Nat.reduceBEq, Nat.reduceBneDiff, Nat.reduceLT]
 refine callQ_self ?_ (famBoolSSS.afT m.2.2.2 h.2) ?_
 ·first | exact rfl | (simp only [eE_eta]; exact rfl)
 simp +contextual -implicitDefEqProofs only [eS, famBoolSSS_t, go_sem, ↓reduceIte, Nat.reduceEqDiff, Nat.reduceAdd, Nat.reduceLeDiff, Nat.reduceBEq, Nat.reduceBneDiff, Nat.reduceLT]
theorem af19 (a b : Mo) : AF Try.prog 19 [eM a, eM b] (.own (eB (qModel a b))) := by
 refine af_of_res res19 mixed rfl fun _ => ?_
 simp +contextual -implicitDefEqProofs only [rc19, qModel, bne, Bool.not_false, Bool.and_true, eM, eS, go_sem, eI, eB, ↓reduceIte, Nat.reduceEqDiff, Nat.reduceAdd, Nat.reduceLeDiff, Nat.reduceBEq, Nat.reduceLT]
 refine callQ_self ?_ (af101 a.1 b.1) ?_
 ·first | exact rfl | (simp only [eE_eta]; exact rfl)
 cases e0 : qG a.1 b.1
 ·simp +contextual -implicitDefEqProofs only [Bool.not_false, Bool.false_and, go_sem, eB, ↓reduceIte]
 cases e1 : (a.2.1 == b.2.1)
 ·simp +contextual -implicitDefEqProofs only [bne, Bool.not_true, Bool.not_false, Bool.false_and, Bool.and_false, e1, go_sem, eB, ↓reduceIte, Nat.reduceEqDiff, Nat.reduceAdd, Nat.reduceLeDiff, Nat.reduceLT]
 simp +contextual -implicitDefEqProofs only [bne, Bool.not_true, Bool.true_and, e1, go_sem, eB, ↓reduceIte, Nat.reduceEqDiff, Nat.reduceAdd, Nat.reduceLeDiff, Nat.reduceLT]
 refine callQ_self ?_ (famBoolSS.afQ a.2.2.1 b.2.2.1) ?_
 ·first | exact rfl | (simp only [eE_eta]; exact rfl)
 cases e2 : famBoolSS.q a.2.2.1 b.2.2.1
 ·simp +contextual -implicitDefEqProofs only [Bool.not_false, Bool.false_and, go_sem, eB, ↓reduceIte]
 simp +contextual -implicitDefEqProofs only [Bool.not_true, Bool.true_and, go_sem, eB, ↓reduceIte, Nat.reduceEqDiff, Nat.reduceAdd, Nat.reduceLeDiff, Nat.reduceLT]
 refine callQ_self ?_ (famBoolSSS.afQ a.2.2.2 b.2.2.2) ?_
 ·first | exact rfl | (simp only [eE_eta]; exact rfl)
 cases e3 : famBoolSSS.q a.2.2.2 b.2.2.2
 ·simp +contextual -implicitDefEqProofs only [Bool.not_false, go_sem, eB, ↓reduceIte]
 ·simp +contextual -implicitDefEqProofs only [Bool.not_true, go_sem, eB, ↓reduceIte]
theorem qModel_refl (m : Mo) : qModel m m = true := by simp [qModel, qG, famBoolSS.q_refl, famBoolSSS.q_refl]
noncomputable def famModel : Fam Try.prog eM 14 16 19 := ⟨szModel, tModel, qModel, fitModel, szModel_in, szModel_fit, qModel_refl, af14, af16, af19⟩
theorem famModel_t (x) : famModel.t x = tModel x := rfl
noncomputable def famExpr : Fam Try.prog eE 40 43 46 := famE mixed res40 res41 res43 res44 res46 res47
theorem famExpr_t (x) : famExpr.t x = tE x := rfl
noncomputable def szEquation (m : Eq2) : Int → Int := fun l => nx (famExpr.s m.1 l) (fun l => nx (famExpr.s m.2 l) (fun l => l))
def fitEquation (m : Eq2) : Prop := famExpr.fit m.1 ∧ famExpr.fit m.2
noncomputable def tEquation (m : Eq2) : Eq2 := (famExpr.t m.1, famExpr.t m.2)
noncomputable def qEquation (a b : Eq2) : Bool := (famExpr.q a.1 b.1 && famExpr.q a.2 b.2)
theorem szEquation_in (m : Eq2) (l : Int) (h1 : 0 ≤ l) (h2 : l ≤ 1048576) : -1 ≤ szEquation m l ∧ szEquation m l ≤ l := by
 refine in_tr (Int.le_refl l) (nx_in (famExpr.s_in m.1 l h1 (by omega)) h1 (by omega) fun y0 a0 b0 => ?_)
 refine in_tr b0 (nx_in (famExpr.s_in m.2 y0 a0 (by omega)) a0 (by omega) fun y1 a1 b1 => ?_)
 exact ⟨by omega, b1⟩
theorem szEquation_fit (m : Eq2) (l : Int) (h2 : l ≤ 1048576) (h1 : 0 ≤ l) (h : 0 ≤ szEquation m l) : fitEquation m := by
 obtain ⟨p0, h⟩ := nx_fit h
 have e0 := famExpr.s_fit m.1 l (by omega) h1 p0
 have b0 := famExpr.s_in m.1 l h1 (by omega)
 obtain ⟨p1, h⟩ := nx_fit h
 have e1 := famExpr.s_fit m.2 _ (by omega) p0 p1
 have b1 := famExpr.s_in m.2 (famExpr.s m.1 l) p0 (by omega)
 exact ⟨e0, e1⟩
theorem af24 (m : Eq2) (l : Int) (h1 : 0 ≤ l) (h2 : l ≤ 1048576) : AF Try.prog 24 [eQ m, eI l] (.own (eI (szEquation m l))) := by
 refine af_of_res res24 mixed rfl fun _ => ?_
 simp +contextual -implicitDefEqProofs only [rc24, eQ, go_sem, eI, ↓reduceIte, Nat.reduceEqDiff, Nat.reduceAdd, Nat.reduceLeDiff, Nat.reduceLT]
 refine callQ_self ?_ (famExpr.afS m.1 l (by omega) (by omega)) ?_
 ·first | exact rfl | (simp only [eE_eta]; exact rfl)
 simp +contextual -implicitDefEqProofs only [go_sem, eI, ↓reduceIte, Nat.reduceEqDiff, Nat.reduceAdd, Nat.reduceLeDiff, Nat.reduceLT]
 have b0 := famExpr.s_in m.1 l (by omega) (by omega)
 refine ⟨fun h => D.Le.sc_eq (by simp only [szEquation]; rw [nx_neg h]), fun g0 => ?_⟩
 refine callQ_self ?_ (famExpr.afS m.2 (famExpr.s m.1 l) (by omega) (by omega)) ?_
 ·first | exact rfl | (simp only [eE_eta]; exact rfl)
 simp +contextual -implicitDefEqProofs only [go_sem, eI, ↓reduceIte, Nat.reduceEqDiff]
 have b1 := famExpr.s_in m.2 (famExpr.s m.1 l) (by omega) (by omega)
 refine ⟨fun h => D.Le.sc_eq (by simp only [szEquation]; rw [nx_pos g0, nx_neg h]), fun g1 => ?_⟩
 exact D.Le.sc_eq (by simp only [szEquation]; rw [nx_pos g0, nx_pos g1])
theorem af27 (m : Eq2) (h : fitEquation m) : AF Try.prog 27 [eQ m] (.own (eQ (tEquation m))) := by
 refine af_of_res res27 mixed rfl fun _ => ?_
 simp +contextual -implicitDefEqProofs only [rc27, eQ, tEquation, famExpr_t, tE_k, tE_n, tE_nn, tE_ks, go_sem, ↓reduceIte, Nat.reduceEqDiff, Nat.reduceAdd, Nat.reduceLeDiff, Nat.reduceBneDiff, Nat.reduceLT]
 refine callQ_self ?_ (famExpr.afT m.1 h.1) ?_
 ·first | exact rfl | (simp only [eE_eta]; exact rfl)
 simp +contextual -implicitDefEqProofs only [famExpr_t, eE_te, go_sem, ↓reduceIte, Nat.reduceEqDiff, Nat.reduceAdd, Nat.reduceLeDiff, Nat.reduceBEq, Nat.reduceBneDiff, Nat.reduceLT]
 refine callQ_self ?_ (famExpr.afT m.2 h.2) ?_
 ·first | exact rfl | (simp only [eE_eta]; exact rfl)
 simp +contextual -implicitDefEqProofs only [famExpr_t, eE_te, go_sem, ↓reduceIte, Nat.reduceEqDiff, Nat.reduceAdd, Nat.reduceLeDiff, Nat.reduceBEq, Nat.reduceBneDiff, Nat.reduceLT]
theorem af29 (a b : Eq2) : AF Try.prog 29 [eQ a, eQ b] (.own (eB (qEquation a b))) := by
 refine af_of_res res29 mixed rfl fun _ => ?_
 simp +contextual -implicitDefEqProofs only [rc29, qEquation, bne, Bool.not_false, Bool.and_true, eQ, go_sem, eB, ↓reduceIte, Nat.reduceEqDiff, Nat.reduceAdd, Nat.reduceLeDiff, Nat.reduceBEq, Nat.reduceLT]
 refine callQ_self ?_ (famExpr.afQ a.1 b.1) ?_
 ·first | exact rfl | (simp only [eE_eta]; exact rfl)
 cases e0 : famExpr.q a.1 b.1
 ·simp +contextual -implicitDefEqProofs only [Bool.not_false, Bool.false_and, go_sem, eB, ↓reduceIte]
 simp +contextual -implicitDefEqProofs only [Bool.not_true, Bool.true_and, go_sem, eB, ↓reduceIte, Nat.reduceEqDiff, Nat.reduceAdd, Nat.reduceLeDiff, Nat.reduceLT]
 refine callQ_self ?_ (famExpr.afQ a.2 b.2) ?_
 ·first | exact rfl | (simp only [eE_eta]; exact rfl)
 cases e1 : famExpr.q a.2 b.2
 ·simp +contextual -implicitDefEqProofs only [Bool.not_false, go_sem, eB, ↓reduceIte]
 ·simp +contextual -implicitDefEqProofs only [Bool.not_true, go_sem, eB, ↓reduceIte]
theorem qEquation_refl (m : Eq2) : qEquation m m = true := by simp [qEquation, famExpr.q_refl]
noncomputable def famEquation : Fam Try.prog eQ 24 27 29 := ⟨szEquation, tEquation, qEquation, fitEquation, szEquation_in, szEquation_fit, qEquation_refl, af24, af27, af29⟩
theorem famEquation_t (x) : famEquation.t x = tEquation x := rfl
noncomputable def hfBoolS : HFam Try.prog (eS 1 eB) famBoolS.s famBoolS.t 202 203 := hfB mixed (fun _ _ => rfl) (fun _ => rfl) res202 res203
noncomputable def hfBoolSS : HFam Try.prog (eS 1 (eS 1 eB)) famBoolSS.s famBoolSS.t 104 106 := hfC mixed famBoolS (encS eB 1) hfBoolS (fun _ => rfl) res104 res106
noncomputable def hfBoolSSS : HFam Try.prog (eS 1 (eS 1 (eS 1 eB))) famBoolSSS.s famBoolSSS.t 105 107 := hfC mixed famBoolSS (encS (eS 1 eB) 1) hfBoolSS (fun _ => rfl) res105 res107
noncomputable def mrkModel (m : Mo) (k : Int) : Mo := (m.1, m.2.1, hfBoolSS.mrk m.2.2.1 k, hfBoolSSS.mrk m.2.2.2 (k + hfBoolSS.cnt m.2.2.1))
noncomputable def cntModel (m : Mo) : Nat := hfBoolSS.cnt m.2.2.1 + hfBoolSSS.cnt m.2.2.2
theorem mk_Model (m : Mo) (k : Int) (h0 : 0 ≤ k) (h1 : k + cntModel m ≤ maxK) : AFM Try.prog 21 (eM m) k (eM (mrkModel m k)) (k + cntModel m) := by
 unfold cntModel at h1 ⊢
 refine afm_ag res21 (by omega) rfl fun hbd => ?_
 simp +contextual -implicitDefEqProofs only [rc21, eM, eS, eI, D.size, D.sizeL, go_sem, ↓reduceIte, Nat.reduceEqDiff, Nat.reduceAdd, Nat.reduceLT]
 refine mMcl_self (e' := eS 1 (eS 1 eB) (hfBoolSS.mrk m.2.2.1 k)) (n' := k + hfBoolSS.cnt m.2.2.1) ?_ rfl (.inr rfl) ?_
 ·exact hfBoolSS.afM m.2.2.1 k (by omega) (by omega)
 simp +contextual -implicitDefEqProofs only [eS, D.at, D.put, D.cells, mrkModel, go_sem, ↓reduceIte, Nat.reduceEqDiff, Nat.reduceAdd, Nat.reduceLT]
 refine mMcl_self (e' := eS 1 (eS 1 (eS 1 eB)) (hfBoolSSS.mrk m.2.2.2 (k + hfBoolSS.cnt m.2.2.1))) (n' := k + hfBoolSS.cnt m.2.2.1 + hfBoolSSS.cnt m.2.2.2) ?_ rfl (.inr rfl) ?_
 ·exact hfBoolSSS.afM m.2.2.2 (k + hfBoolSS.cnt m.2.2.1) (by omega) (by omega)
 simp +contextual -implicitDefEqProofs only [eS, D.at, D.put, D.cells, go_sem, ↓reduceIte, Nat.reduceEqDiff, Nat.reduceAdd]
 try simp only [Int.natCast_add, Int.add_assoc]
 try trivial
theorem hd_Model (m : Mo) (k : Int) (h0 : 0 ≤ k) (h1 : k + cntModel m ≤ maxK) : AF Try.prog 23 [eM (mrkModel m k), eI k] (.own (eI (k + cntModel m))) := by
 unfold cntModel at h1 ⊢
 unfold maxK at h1
 refine af_of_res res23 mixed rfl fun hbd => ?_
 simp +contextual -implicitDefEqProofs only [rc23, eM, eS, mrkModel, eI, D.at, D.sub, D.size, D.sizeL, D.isAg, go_sem, ↓reduceIte, Nat.reduceEqDiff, Nat.reduceAdd, Nat.reduceLeDiff, Nat.reduceLT]
 refine callQ_self (ds := [eS 1 (eS 1 eB) (hfBoolSS.mrk m.2.2.1 k), eI k]) (by rfl) (hfBoolSS.afH m.2.2.1 k (by omega) (by unfold maxK; omega)) ?_
 have n0 : ¬ (k + hfBoolSS.cnt m.2.2.1 < 0) := by omega
 simp +contextual -implicitDefEqProofs only [n0, eI, D.at, D.sub, D.isAg, go_sem, ↓reduceIte, Nat.reduceEqDiff, Nat.reduceAdd, Nat.reduceLeDiff, Nat.reduceLT]
 refine callQ_self (ds := [eS 1 (eS 1 (eS 1 eB)) (hfBoolSSS.mrk m.2.2.2 (k + hfBoolSS.cnt m.2.2.1)), eI (k + hfBoolSS.cnt m.2.2.1)]) (by rfl) (hfBoolSSS.afH m.2.2.2 (k + hfBoolSS.cnt m.2.2.1) (by omega) (by unfold maxK; omega)) ?_
 have n1 : ¬ (k + hfBoolSS.cnt m.2.2.1 + hfBoolSSS.cnt m.2.2.2 < 0) := by omega
 simp +contextual -implicitDefEqProofs only [n1, eI, go_sem, ↓reduceIte, Nat.reduceEqDiff]
 try exact D.Le.sc_eq (by simp only [Int.natCast_add, Int.add_assoc])
noncomputable def hfModel : HFam Try.prog eM szModel tModel 21 23 where
 mrk := mrkModel
 cnt := cntModel
 cnt_s m l h1 h2 h := by
  unfold szModel at h ⊢
  unfold cntModel
  obtain ⟨p0, h⟩ := nx_fit h
  rw [nx_pos (by omega)]
  have b0 := famBoolSS.s_in m.2.2.1 l (by omega) (by omega)
  have c0 := hfBoolSS.cnt_s m.2.2.1 l (by omega) (by omega) p0
  obtain ⟨p1, h⟩ := nx_fit h
  rw [nx_pos (by omega)]
  have b1 := famBoolSSS.s_in m.2.2.2 (famBoolSS.s m.2.2.1 l) (by omega) (by omega)
  have c1 := hfBoolSSS.cnt_s m.2.2.2 (famBoolSS.s m.2.2.1 l) (by omega) (by omega) p1
  push_cast
  omega
 cnt_t m := by unfold cntModel tModel; simp only [hfBoolSS.cnt_t, hfBoolSSS.cnt_t]
 afM := mk_Model
 afH := hd_Model

theorem eq_cnt (q : Eq2) (h : ¬ (famEquation.s q 1048576 < 0)) : (cntE0 (famEquation.t q).1 : Int) + cntE0 (famEquation.t q).2 ≤ 8388608 := by
 have h0 := Int.not_lt.1 h
 have e1 : cntE0 (famEquation.t q).1 = cntE0 q.1 := cntE0_tE _
 have e2 : cntE0 (famEquation.t q).2 = cntE0 q.2 := cntE0_tE _
 rw [e1, e2]
 have h1 : 0 ≤ szEquation q 1048576 := h0
 unfold szEquation at h1
 obtain ⟨p1', p2⟩ := nx_fit h1
 have p1 : 0 ≤ szE q.1 1048576 := p1'
 have b1 := szE_in q.1 1048576 (by omega) (by omega)
 have c1 := szE_cnt q.1 1048576 (by omega) (by omega) p1
 have p3 : 0 ≤ szE q.2 (szE q.1 1048576) := (nx_fit p2).1
 have b2 := szE_in q.2 (szE q.1 1048576) (by omega) (by omega)
 have c2 := szE_cnt q.2 (szE q.1 1048576) (by omega) (by omega) p3
 omega
theorem fm_le {t a : Nat} {q : Eq2} {p : Nat} {x : Nat × Nat} (h : fmAll t a q p = some x) : x.1 ≤ p := by
 unfold fmAll at h
 obtain ⟨i, hi, h2⟩ := List.exists_of_findSome?_eq_some h
 simp only [Option.map_eq_some_iff] at h2
 obtain ⟨k, _, rfl⟩ := h2
 have h3 : i < p := by simpa using hi
 exact h3
theorem fm_cnt (g : Int × Int) (q : Eq2) (pts : Int) : hfModel.cnt (fmR g q pts).1 ≤ 2000000000 := by
 unfold fmR
 split
 ·exact Nat.zero_le _
 next hq =>
 split
 ·exact Nat.zero_le _
 next hi =>
 unfold fmR2
 split
 ·exact Nat.zero_le _
 split
 ·next x hx =>
  have hl := fm_le hx
  have hp := isIn_iff'.1 (by simpa using hi)
  have hg : g.1 ≤ 3 ∧ g.2 ≤ 4 := by
   have h : okQ g q = true := by simpa using hq
   simp only [okQ, Bool.and_eq_true] at h
   have h := h.1
   simp only [okG, Bool.and_eq_true, isIn_iff'] at h
   omega
  have hp3 : x.1 ≤ 3 := by omega
  have r1 : cntL (fun x : SL Bool => x.2.length) (numM g.1.toNat g.2.toNat x.1 (x.2 : Nat)).2.2.1.2 ≤ _ := cntL_bd (c := 1000) (fun y hy => by
   simp only [numM, List.mem_map] at hy
   obtain ⟨i, _, rfl⟩ := hy
   simp
   omega)
  have r2 : cntL (fun x : SL (SL Bool) => cntL (fun x : SL Bool => x.2.length) x.2) (numM g.1.toNat g.2.toNat x.1 (x.2 : Nat)).2.2.2.2 ≤ _ := cntL_bd (c := 1000000) (fun y hy => by
   simp only [numM, List.mem_map] at hy
   obtain ⟨i, _, rfl⟩ := hy
   have := cntL_bd (cnt := fun x : SL Bool => x.2.length) (l := (List.range x.1).map fun z => ((some false, (List.range x.1).map fun y => bitN (x.2 : Nat) (g.1.toNat * x.1 + i * (x.1 * x.1) + z * x.1 + y)) : SL Bool)) (c := 1000) (fun w hw => by
    simp only [List.mem_map] at hw
    obtain ⟨j, _, rfl⟩ := hw
    simp
    omega)
   simp only [List.length_map, List.length_range] at this
   simp only
   omega)
  show cntL (fun x : SL Bool => x.2.length) (numM g.1.toNat g.2.toNat x.1 (x.2 : Nat)).2.2.1.2 + cntL (fun x : SL (SL Bool) => cntL (fun x : SL Bool => x.2.length) x.2) (numM g.1.toNat g.2.toNat x.1 (x.2 : Nat)).2.2.2.2 ≤ _
  simp only [numM, List.length_map, List.length_range] at r1 r2 ⊢
  omega
 ·exact Nat.zero_le _
theorem law (g : Int × Int) (q : Eq2) (pts : Int) : AF Try.prog 4 [eG g, eQ q, eI pts] (.own (eB true)) := by
 refine af_of_res res4 mixed rfl fun hbd => ?_
 simp +contextual -implicitDefEqProofs only [rc4, eG, eI, eB, eQ, go_sem, ↓reduceIte, Nat.reduceEqDiff, Nat.reduceAdd, Nat.reduceLeDiff, Nat.reduceBneDiff, Nat.reduceLT]
 refine callQ_self (ds := [eQ q, eI 1048576]) ?_ (famEquation.afS q 1048576 (by omega) (by omega)) ?_
 ·simp only [eI, eQ]; exact rfl
 simp +contextual -implicitDefEqProofs only [eI, go_sem, ↓reduceIte, Nat.reduceEqDiff, Nat.reduceLeDiff]
 have sb0 := famEquation.s_in q 1048576 (by omega) (by omega)
 refine fun hs0 => ?_
 have hf0 := famEquation.s_fit q 1048576 (by omega) (by omega) (by omega)
 refine callQ_self (ds := [eG g]) ?_ (af26 g) ?_
 ·simp only [eG, eI]; exact rfl
 simp +contextual -implicitDefEqProofs only [eG, eI, go_sem, ↓reduceIte, Nat.reduceEqDiff, Nat.reduceLeDiff]
 refine callQ_self (ds := [eQ q]) ?_ (famEquation.afT q hf0) ?_
 ·simp only [eQ]; exact rfl
 simp +contextual -implicitDefEqProofs only [eQ, famEquation_t, tEquation, famExpr_t, tE_k, tE_n, tE_nn, tE_ks, go_sem, ↓reduceIte, Nat.reduceEqDiff, Nat.reduceBneDiff]
 have hsp := af25 g (famEquation.t q) pts
 have him := af28 g (famEquation.t q) pts
 have hqQ := famEquation.afQ (famEquation.t q) (famEquation.t q)
 rw [famEquation.q_refl] at hqQ
 have hc0 := eq_cnt q hs0
 have hc1 := fm_cnt g (famEquation.t q) pts
 generalize fmR g (famEquation.t q) pts = r at hsp him hc1
 obtain ⟨r, c⟩ := r
 simp only at hsp him hc1
 have hqM := famModel.afQ r r
 rw [famModel.q_refl] at hqM
 have hM0 := af30 (famEquation.t q) 1 (by omega) (by unfold maxK; omega)
 generalize hmq : (mkE0 (famEquation.t q).1 1, mkE0 (famEquation.t q).2 (1 + cntE0 (famEquation.t q).1)) = mQ at hM0
 generalize cntE0 (famEquation.t q).1 = cA at hM0 hc0
 generalize cntE0 (famEquation.t q).2 = cB at hM0 hc0
 have hM1 := hfModel.afM r 1 (by omega) (by unfold maxK; omega)
 have hH1 := hfModel.afH r 1 (by omega) (by unfold maxK; omega)
 generalize hfModel.cnt r = cR at hM1 hH1 hc1
 generalize hfModel.mrk r 1 = mR at hM1 hH1
 have hk0 : ¬ (1 + (cA : Int) + (cB : Int) < 0) := by omega
 have hk1 : ¬ (1 + (cR : Int) < 0) := by omega
 refine callQ_self (ds := [eG g, eQ (famEquation.t q), eI pts]) ?_ (hsp) ?_
 ·simp only [eG, eI, eQ, famEquation_t, tEquation, famExpr_t, tE_k, tE_n, tE_nn, tE_ks]; exact rfl
 simp +contextual -implicitDefEqProofs only [eM, eS, eI, go_sem, ↓reduceIte, Nat.reduceEqDiff, Nat.reduceAdd, Nat.reduceLeDiff, Nat.reduceBEq, Nat.reduceBneDiff, Nat.reduceLT]
 refine callQ_self (ds := [eQ q]) ?_ (famEquation.afT q hf0) ?_
 ·simp only [eQ]; exact rfl
 simp +contextual -implicitDefEqProofs only [eQ, famEquation_t, tEquation, famExpr_t, tE_k, tE_n, tE_nn, tE_ks, go_sem, ↓reduceIte, Nat.reduceEqDiff, Nat.reduceAdd, Nat.reduceLeDiff, Nat.reduceBEq, Nat.reduceBneDiff, Nat.reduceLT]
 refine callQ_self (ds := [eG g]) ?_ (af26 g) ?_
 ·simp only [eG, eI]; exact rfl
 simp +contextual -implicitDefEqProofs only [eG, eI, go_sem, ↓reduceIte, Nat.reduceEqDiff, Nat.reduceLeDiff]
 refine callQ_self (ds := [eG g, eQ (famEquation.t q), eI pts]) ?_ (him) ?_
 ·simp only [eG, eI, eQ, famEquation_t, tEquation, famExpr_t, tE_k, tE_n, tE_nn, tE_ks]; exact rfl
 simp +contextual -implicitDefEqProofs only [eM, eS, eI, go_sem, ↓reduceIte, Nat.reduceEqDiff, Nat.reduceAdd, Nat.reduceLeDiff, Nat.reduceBEq, Nat.reduceBneDiff, Nat.reduceLT]
 refine callQ_self (ds := [eM r, eM r]) ?_ (hqM) ?_
 ·simp only [eM, eS, eI]; exact rfl
 simp +contextual -implicitDefEqProofs only [Bool.not_true, eB, bne_self_eq_false, go_sem, ↓reduceIte, Nat.reduceEqDiff, Nat.reduceLeDiff]
 refine callQ_self (ds := [eQ q]) ?_ (famEquation.afT q hf0) ?_
 ·simp only [eQ]; exact rfl
 simp +contextual -implicitDefEqProofs only [eQ, famEquation_t, tEquation, famExpr_t, tE_k, tE_n, tE_nn, tE_ks, go_sem, ↓reduceIte, Nat.reduceEqDiff, Nat.reduceBneDiff]
 refine callQ_self (ds := [eQ (famEquation.t q), eQ (famEquation.t q)]) ?_ (hqQ) ?_
 ·simp only [eQ, famEquation_t, tEquation, famExpr_t, tE_k, tE_n, tE_nn, tE_ks]; exact rfl
 simp +contextual -implicitDefEqProofs only [Bool.not_true, eB, go_sem, ↓reduceIte, Nat.reduceEqDiff, Nat.reduceLeDiff]
 refine ⟨eQ mQ, 1 + cA + cB, (by have h := hM0; simp only [eQ, famEquation_t, tEquation, famExpr_t, tE_k, tE_n, tE_nn, tE_ks] at h ⊢; exact h), ⟨rfl, fun _ => rfl, rfl⟩, ?_⟩
 simp +contextual -implicitDefEqProofs only [hk0, D.put, D.isAg, D.at, D.sub, eQ, go_sem, ↓reduceIte, Nat.reduceEqDiff, Nat.reduceLeDiff, Nat.reduceBEq]
 refine callQ_self (ds := [eM r, eM r]) ?_ (hqM) ?_
 ·simp only [eM, eS, eI]; exact rfl
 simp +contextual -implicitDefEqProofs only [Bool.not_true, eB, bne_self_eq_false, go_sem, ↓reduceIte, Nat.reduceEqDiff, Nat.reduceLeDiff]
 refine ⟨eM mR, 1 + cR, hM1, ⟨rfl, fun _ => rfl, rfl⟩, ?_⟩
 simp +contextual -implicitDefEqProofs only [D.put, D.isAg, D.at, D.sub, eM, eS, eI, go_sem, ↓reduceIte, Nat.reduceEqDiff, Nat.reduceLeDiff, Nat.reduceBEq]
 refine callQ_self (ds := [eM mR, eI 1]) ?_ (hH1) ?_
 ·simp only [eM, eS, eI]; exact rfl
 simp +contextual -implicitDefEqProofs only [hk1, eI, bne_self_eq_false, go_sem, ↓reduceIte, Nat.reduceEqDiff, Nat.reduceLeDiff]
 refine callQ_self (ds := [eG g]) ?_ (af26 g) ?_
 ·simp only [eG, eI]; exact rfl
 simp +contextual -implicitDefEqProofs only [eG, eI, go_sem, ↓reduceIte, Nat.reduceEqDiff, Nat.reduceLeDiff]
 refine callQ_self (ds := [eQ q]) ?_ (famEquation.afT q hf0) ?_
 ·simp only [eQ]; exact rfl
 simp +contextual -implicitDefEqProofs only [eQ, famEquation_t, tEquation, famExpr_t, tE_k, tE_n, tE_nn, tE_ks, go_sem, ↓reduceIte, Nat.reduceEqDiff, Nat.reduceBneDiff]
 refine callQ_self (ds := [eG g, eQ (famEquation.t q), eI pts]) ?_ (him) ?_
 ·simp only [eG, eI, eQ, famEquation_t, tEquation, famExpr_t, tE_k, tE_n, tE_nn, tE_ks]; exact rfl
 simp +contextual -implicitDefEqProofs only [eM, eS, eI, go_sem, ↓reduceIte, Nat.reduceEqDiff, Nat.reduceAdd, Nat.reduceLeDiff, Nat.reduceBEq, Nat.reduceBneDiff, Nat.reduceLT]
 refine callQ_self (ds := [eM r, eM r]) ?_ (hqM) ?_
 ·simp only [eM, eS, eI]; exact rfl
 simp +contextual -implicitDefEqProofs only [Bool.not_true, eB, bne_self_eq_false, go_sem, ↓reduceIte, Nat.reduceEqDiff, Nat.reduceLeDiff]
 refine callQ_self (ds := [eM mR, eI 1]) ?_ (hH1) ?_
 ·simp only [eM, eS, eI]; exact rfl
 simp +contextual -implicitDefEqProofs only [hk1, eI, bne_self_eq_false, go_sem, ↓reduceIte, Nat.reduceEqDiff]
end Go.Ax
