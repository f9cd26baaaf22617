/- Contracts of functions of the seat, proved over the engine. No condition. -/
import Derived.WalkKit
import Derived.Lib.Walk
import Derived.Below
import Derived.Test.YtjnghfepojipiaaX71
import Derived.Test.YtjnghfepojipiaaX2
import Derived.Test.YtjnghfepojipiaaChecked
set_option linter.unusedSimpArgs false
set_option linter.unusedVariables false
set_option linter.unnecessarySimpa false
namespace Go.Ax
set_option linter.unusedSimpArgs false
open Go.Proofs
theorem mixed : Try.prog.follows .mixedOrders = true := by kernel_rfl
theorem res41 : resF Try.prog 41 = some (27, cSzC 40 3 true, [.t 4]) := by kernel_rfl
theorem res40 : resF Try.prog 40 = some (12, k_szExpr 41, [.t 4]) := by kernel_rfl
theorem res119 : resF Try.prog 119 = some (27, cSzC 31 6 true, [.t 4]) := by kernel_rfl
theorem res31 : resF Try.prog 31 = some (18, k_szProg 40 119, [.t 4]) := by kernel_rfl
theorem res26 : resF Try.prog 26 = some (11, k_toSig, [.c 2 2 true]) := by kernel_rfl
theorem af26 : K_toSig Try.prog 26 := a_toSig mixed res26
theorem res44 : resF Try.prog 44 = some (23, cToC 43 3 40 true (.ag [(.sc (.int .i64 0)), (.sc (.int .i64 0)), (.ls (some true) 3 [])]), [.t 2]) := by kernel_rfl
theorem res43 : resF Try.prog 43 = some (15, k_toExpr 44, [.c 2 3 true]) := by kernel_rfl
theorem res122 : resF Try.prog 122 = some (23, cToC 33 6 80 true (.ag [(.sc (.int .i64 0)), (.sc (.int .i64 0)), (.sc (.int .i64 0)), (.sc (.int .i64 0)), (.ls (some true) 3 []), (.ls (some true) 6 [])]), [.t 2]) := by kernel_rfl
theorem res33 : resF Try.prog 33 = some (19, k_toProg 43 122, [.c 2 6 true]) := by kernel_rfl
theorem res109 : resF Try.prog 109 = some (15, k_l00In, [.t 6]) := by kernel_rfl
theorem af109 : K_l00In Try.prog 109 := a_l00In mixed res109
theorem res130 : resF Try.prog 130 = some (11, k_l01Sig 109, [.t 2]) := by kernel_rfl
theorem af130 : K_l01Sig Try.prog 130 := a_l01Sig mixed res130 af109
theorem res213 : resF Try.prog 213 = some (30, k_l06Left 213, [.t 4]) := by kernel_rfl
theorem af213 : K_l06Left Try.prog 213 := a_l06Left mixed res213
theorem res224 : resF Try.prog 224 = some (10, k_l00Max, [.t 4]) := by kernel_rfl
theorem af224 : K_l00Max Try.prog 224 := a_l00Max mixed res224
theorem res214 : resF Try.prog 214 = some (25, k_l06Depth 214 224, [.t 2]) := by kernel_rfl
theorem af214 : K_l06Depth Try.prog 214 := a_l06Depth mixed res214 af224
theorem res269 : resF Try.prog 269 = some (14, k_l06Kids, [.t 2]) := by kernel_rfl
theorem af269 : K_l06Kids Try.prog 269 := a_l06Kids mixed res269
theorem res270 : resF Try.prog 270 = some (13, k_l06Asks, [.t 2]) := by kernel_rfl
theorem af270 : K_l06Asks Try.prog 270 := a_l06Asks mixed res270
theorem res221 : resF Try.prog 221 = some (30, k_l01Left 221, [.t 4]) := by kernel_rfl
theorem af221 : K_l01Left Try.prog 221 := a_l01Left mixed res221
theorem res222 : resF Try.prog 222 = some (25, k_l01Depth 222 224, [.t 2]) := by kernel_rfl
theorem af222 : K_l01Depth Try.prog 222 := a_l01Depth mixed res222 af224
theorem res275 : resF Try.prog 275 = some (15, k_l01Kids, [.t 2]) := by kernel_rfl
theorem af275 : K_l01Kids Try.prog 275 := a_l01Kids mixed res275
theorem res157 : resF Try.prog 157 = some (34, k_l01Condition 157 109, [.t 2]) := by kernel_rfl
theorem af157 : K_l01Condition Try.prog 157 := a_l01Condition mixed res157 af109
theorem res223 : resF Try.prog 223 = some (80, k_l01Tree 223 275 109 157, [.t 4]) := by kernel_rfl
theorem af223 : K_l01Tree Try.prog 223 := a_l01Tree mixed res223 af275 af109 af157
theorem res131 : resF Try.prog 131 = some (22, k_l01Ok 130 221 222 223, [.t 4]) := by kernel_rfl
theorem af131 : K_l01Ok Try.prog 131 := a_l01Ok mixed res131 af130 af221 af222 af223
theorem res271 : resF Try.prog 271 = some (12, k_l06Cond 131 157, [.t 4]) := by kernel_rfl
theorem af271 : K_l06Cond Try.prog 271 := a_l06Cond mixed res271 af131 af157
theorem res272 : resF Try.prog 272 = some (23, k_l06None, [.t 2]) := by kernel_rfl
theorem af272 : K_l06None Try.prog 272 := a_l06None mixed res272
theorem res215 : resF Try.prog 215 = some (93, k_l06Tree 215 269 109 270 271 272, [.t 4]) := by kernel_rfl
theorem af215 : K_l06Tree Try.prog 215 := a_l06Tree mixed res215 af269 af109 af270 af271 af272
theorem res120 : resF Try.prog 120 = some (22, k_l06Ok 130 213 214 215, [.t 4]) := by kernel_rfl
theorem af120 : K_l06Ok Try.prog 120 := a_l06Ok mixed res120 af130 af213 af214 af215
theorem res216 : resF Try.prog 216 = some (21, k_l06Add, [.t 4]) := by kernel_rfl
theorem af216 : K_l06Add Try.prog 216 := a_l06Add mixed res216
theorem res217 : resF Try.prog 217 = some (36, k_l01Own 217, [.c 2 3 true]) := by kernel_rfl
theorem af217 : K_l01Own Try.prog 217 := a_l01Own mixed res217
theorem res121 : resF Try.prog 121 = some (117, k_l06Make 121 216 217, [.t 6]) := by kernel_rfl
theorem af121 : K_l06Make Try.prog 121 := a_l06Make mixed res121 af216 af217
theorem res32 : resF Try.prog 32 = some (22, k_spFlowOf 120 121, [.c 4 2 true, .t 5]) := by kernel_rfl
theorem af32 : K_spFlowOf Try.prog 32 := a_spFlowOf mixed res32 af120 af121
theorem res115 : resF Try.prog 115 = some (15, k_within, [.t 6]) := by kernel_rfl
theorem af115 : K_within Try.prog 115 := a_within mixed res115
theorem res138 : resF Try.prog 138 = some (11, k_validSig 115, [.t 2]) := by kernel_rfl
theorem af138 : K_validSig Try.prog 138 := a_validSig mixed res138 af115
theorem res293 : resF Try.prog 293 = some (17, k_progForm, [.t 2, .t 3]) := by kernel_rfl
theorem af293 : K_progForm Try.prog 293 := a_progForm mixed res293
theorem res276 : resF Try.prog 276 = some (15, k_kidsOf, [.t 2]) := by kernel_rfl
theorem af276 : K_kidsOf Try.prog 276 := a_kidsOf mixed res276
theorem res227 : resF Try.prog 227 = some (25, k_isCondition 227, [.t 2]) := by kernel_rfl
theorem af227 : K_isCondition Try.prog 227 := a_isCondition mixed res227
theorem res226 : resF Try.prog 226 = some (86, k_shaped 226 276 115 227, [.t 8, .t 9]) := by kernel_rfl
theorem af226 : K_shaped Try.prog 226 := a_shaped mixed res226 af276 af115 af227
theorem res139 : resF Try.prog 139 = some (14, k_isExpr 226, [.t 4]) := by kernel_rfl
theorem af139 : K_isExpr Try.prog 139 := a_isExpr mixed res139 af226
theorem res294 : resF Try.prog 294 = some (12, k_imCondOk 139 227, [.t 4]) := by kernel_rfl
theorem af294 : K_imCondOk Try.prog 294 := a_imCondOk mixed res294 af139 af227
theorem res295 : resF Try.prog 295 = some (17, k_isNone, [.t 2]) := by kernel_rfl
theorem af295 : K_isNone Try.prog 295 := a_isNone mixed res295
theorem res273 : resF Try.prog 273 = some (98, k_progFits 273 293 294 295 115, [.t 8, .t 9]) := by kernel_rfl
theorem af273 : K_progFits Try.prog 273 := a_progFits mixed res273 af293 af294 af295 af115
theorem res218 : resF Try.prog 218 = some (14, k_isProg 273, [.t 4]) := by kernel_rfl
theorem af218 : K_isProg Try.prog 218 := a_isProg mixed res218 af273
theorem res123 : resF Try.prog 123 = some (12, k_imValidProg 138 218, [.t 4]) := by kernel_rfl
theorem af123 : K_imValidProg Try.prog 123 := a_imValidProg mixed res123 af138 af218
theorem res274 : resF Try.prog 274 = some (21, k_flAdd, [.t 4]) := by kernel_rfl
theorem af274 : K_flAdd Try.prog 274 := a_flAdd mixed res274
theorem res155 : resF Try.prog 155 = some (27, k_copyExpr 155, [.c 2 3 true]) := by kernel_rfl
theorem af155 : K_copyExpr Try.prog 155 := a_copyExpr mixed res155
theorem res219 : resF Try.prog 219 = some (105, k_flMake 219 274 155, [.t 6]) := by kernel_rfl
theorem af219 : K_flMake Try.prog 219 := a_flMake mixed res219 af274 af155
theorem res124 : resF Try.prog 124 = some (11, k_flowOf 219, [.c 2 2 true]) := by kernel_rfl
theorem af124 : K_flowOf Try.prog 124 := a_flowOf mixed res124 af219
theorem res34 : resF Try.prog 34 = some (20, k_imFlowOf 123 124, [.c 4 2 true, .t 5]) := by kernel_rfl
theorem af34 : K_imFlowOf Try.prog 34 := a_imFlowOf mixed res34 af123 af124
theorem res47 : resF Try.prog 47 = some (27, cEqC 46 3 true, [.t 4]) := by kernel_rfl
theorem res46 : resF Try.prog 46 = some (21, k_eqExpr 47, [.t 4]) := by kernel_rfl

def rc220 : RC := (.seq (.reg false [⟨none, .box 2 7 (.t 0)⟩, ⟨none, .box 3 7 (.t 1)⟩, ⟨none, .mv 4 (.c (.sc (.bool false)))⟩]) ((.seq ((.seq (.reg false [⟨none, .fa 5 0 (.t 2)⟩, ⟨none, .ld 6 false 1 (.t 5)⟩, ⟨none, .fa 7 0 (.t 3)⟩, ⟨none, .ld 8 false 1 (.t 7)⟩, ⟨none, .bin 9 .neq (.t 6) (.t 8)⟩]) (.cond (.t 9) ((.seq (.reg false [⟨none, .mv 4 (.c (.sc (.bool false)))⟩]) (.ret))) (.skip)))) ((.seq ((.seq (.reg false [⟨none, .fa 10 1 (.t 2)⟩, ⟨none, .ld 11 false 1 (.t 10)⟩, ⟨none, .fa 12 1 (.t 3)⟩, ⟨none, .ld 13 false 1 (.t 12)⟩, ⟨none, .bin 14 .neq (.t 11) (.t 13)⟩]) (.cond (.t 14) ((.seq (.reg false [⟨none, .mv 4 (.c (.sc (.bool false)))⟩]) (.ret))) (.skip)))) ((.seq ((.seq (.reg false [⟨none, .fa 15 2 (.t 2)⟩, ⟨none, .ld 16 true 3 (.t 15)⟩, ⟨none, .fa 17 2 (.t 3)⟩, ⟨none, .ld 18 true 3 (.t 17)⟩, ⟨none, .call (some 19) 46 [(.t 16), (.t 18)]⟩, ⟨none, .un 20 .not (.t 19)⟩]) (.cond (.t 20) ((.seq (.reg false [⟨none, .mv 4 (.c (.sc (.bool false)))⟩]) (.ret))) (.skip)))) ((.seq ((.seq (.reg false [⟨none, .fa 21 5 (.t 2)⟩, ⟨none, .ld 22 false 1 (.t 21)⟩, ⟨none, .fa 23 5 (.t 3)⟩, ⟨none, .ld 24 false 1 (.t 23)⟩, ⟨none, .bin 25 .neq (.t 22) (.t 24)⟩]) (.cond (.t 25) ((.seq (.reg false [⟨none, .mv 4 (.c (.sc (.bool false)))⟩]) (.ret))) (.skip)))) ((.seq ((.seq (.reg false [⟨none, .fa 26 6 (.t 2)⟩, ⟨none, .ld 27 false 1 (.t 26)⟩, ⟨none, .fa 28 6 (.t 3)⟩, ⟨none, .ld 29 false 1 (.t 28)⟩, ⟨none, .bin 30 .neq (.t 27) (.t 29)⟩]) (.cond (.t 30) ((.seq (.reg false [⟨none, .mv 4 (.c (.sc (.bool false)))⟩]) (.ret))) (.skip)))) ((.seq (.reg false [⟨none, .mv 4 (.c (.sc (.bool true)))⟩]) (.ret))))))))))))))
theorem res220 : resF Try.prog 220 = some (31, rc220, [.t 4]) := by kernel_rfl
theorem res125 : resF Try.prog 125 = some (27, cEqC 220 7 true, [.t 4]) := by kernel_rfl

def rc35 : RC := (.seq (.reg false [⟨none, .box 2 2 (.t 0)⟩, ⟨none, .box 3 2 (.t 1)⟩, ⟨none, .mv 4 (.c (.sc (.bool false)))⟩]) ((.seq ((.seq (.reg false [⟨none, .fa 5 0 (.t 2)⟩, ⟨none, .ld 6 false 1 (.t 5)⟩, ⟨none, .fa 7 0 (.t 3)⟩, ⟨none, .ld 8 false 1 (.t 7)⟩, ⟨none, .bin 9 .neq (.t 6) (.t 8)⟩]) (.cond (.t 9) ((.seq (.reg false [⟨none, .mv 4 (.c (.sc (.bool false)))⟩]) (.ret))) (.skip)))) ((.seq ((.seq (.reg false [⟨none, .fa 10 1 (.t 2)⟩, ⟨none, .ld 11 false 1 (.t 10)⟩, ⟨none, .fa 12 1 (.t 3)⟩, ⟨none, .ld 13 false 1 (.t 12)⟩, ⟨none, .call (some 14) 125 [(.t 11), (.t 13)]⟩, ⟨none, .un 15 .not (.t 14)⟩]) (.cond (.t 15) ((.seq (.reg false [⟨none, .mv 4 (.c (.sc (.bool false)))⟩]) (.ret))) (.skip)))) ((.seq (.reg false [⟨none, .mv 4 (.c (.sc (.bool true)))⟩]) (.ret))))))))
theorem res35 : resF Try.prog 35 = some (16, rc35, [.t 4]) := by kernel_rfl
theorem res126 : resF Try.prog 126 = some (27, cEqC 36 6 true, [.t 4]) := by kernel_rfl
theorem res36 : resF Try.prog 36 = some (27, k_eqProg 46 126, [.t 4]) := by kernel_rfl
theorem res145 : resF Try.prog 145 = some (40, k_heldExprS 145, [.t 4]) := by kernel_rfl
theorem af145 : K_heldExprS Try.prog 145 := a_heldExprS mixed res145
theorem res129 : resF Try.prog 129 = some (79, k_heldSpotS 145, [.t 4]) := by kernel_rfl
theorem af129 : K_heldSpotS Try.prog 129 := a_heldSpotS mixed res129 af145
theorem res39 : resF Try.prog 39 = some (12, k_heldFlow 129, [.t 4]) := by kernel_rfl
theorem af39 : K_heldFlow Try.prog 39 := a_heldFlow mixed res39 af129
theorem res49 : resF Try.prog 49 = some (34, k_markExprS 49, [.t 4]) := by kernel_rfl
theorem af49 : K_markExprS Try.prog 49 := a_markExprS mixed res49
theorem res48 : resF Try.prog 48 = some (10, k_markExpr 49, [.t 4]) := by kernel_rfl
theorem af48 : K_markExpr Try.prog 48 := a_markExpr mixed res48 af49
theorem res127 : resF Try.prog 127 = some (58, k_markProgS 127 49, [.t 4]) := by kernel_rfl
theorem af127 : K_markProgS Try.prog 127 := a_markProgS mixed res127 af49
theorem res37 : resF Try.prog 37 = some (14, k_markProg 48 127, [.t 4]) := by kernel_rfl
theorem af37 : K_markProg Try.prog 37 := a_markProg mixed res37 af48 af127
theorem res128 : resF Try.prog 128 = some (65, k_markSpotS 49, [.t 4]) := by kernel_rfl
theorem af128 : K_markSpotS Try.prog 128 := a_markSpotS mixed res128 af49
theorem res38 : resF Try.prog 38 = some (10, k_markFlow 128, [.t 4]) := by kernel_rfl
theorem af38 : K_markFlow Try.prog 38 := a_markFlow mixed res38 af128

def rc5 : RC := (.seq (.reg false [⟨none, .box 2 2 (.t 0)⟩, ⟨none, .box 3 6 (.t 1)⟩, ⟨none, .mv 4 (.c (.sc (.bool false)))⟩]) ((.seq (.reg false [⟨none, .mv 5 (.c (.sc (.int .i64 1048576)))⟩]) ((.seq (.reg false [⟨none, .ld 16 true 6 (.t 3)⟩, ⟨none, .mv 17 (.t 5)⟩, ⟨none, .call (some 18) 31 [(.t 16), (.t 17)]⟩, ⟨none, .mv 5 (.t 18)⟩]) ((.seq ((.seq (.reg false [⟨none, .mv 19 (.t 5)⟩, ⟨none, .bin 20 .lss (.t 19) (.c (.sc (.int .i64 0)))⟩]) (.cond (.t 20) ((.seq (.reg false [⟨none, .mv 4 (.c (.sc (.bool true)))⟩]) (.ret))) (.skip)))) ((.seq (.reg true [⟨none, .ld 22 true 2 (.t 2)⟩, ⟨none, .call (some 23) 26 [(.t 22)]⟩, ⟨none, .ld 24 true 6 (.t 3)⟩, ⟨none, .call (some 25) 33 [(.t 24)]⟩, ⟨none, .call (some 26) 32 [(.t 23), (.t 25)]⟩, ⟨none, .mv 21 (.t 26)⟩, ⟨none, .ext 27 (.t 21) 0⟩, ⟨none, .ext 28 (.t 21) 1⟩, ⟨none, .zer 6 2 (.ag [(.sc (.int .i64 0)), (.ls (some true) 7 [])])⟩, ⟨none, .st 2 (.t 6) (.t 27)⟩, ⟨none, .mv 7 (.t 28)⟩]) ((.seq (.reg false [⟨none, .ld 29 true 6 (.t 3)⟩, ⟨none, .call (some 30) 33 [(.t 29)]⟩, ⟨none, .zer 8 6 (.ag [(.sc (.int .i64 0)), (.sc (.int .i64 0)), (.sc (.int .i64 0)), (.sc (.int .i64 0)), (.ls (some true) 3 []), (.ls (some true) 6 [])])⟩, ⟨none, .st 6 (.t 8) (.t 30)⟩]) ((.seq (.reg true [⟨none, .ld 32 true 2 (.t 2)⟩, ⟨none, .call (some 33) 26 [(.t 32)]⟩, ⟨none, .ld 34 true 6 (.t 8)⟩, ⟨none, .call (some 35) 34 [(.t 33), (.t 34)]⟩, ⟨none, .mv 31 (.t 35)⟩, ⟨none, .ext 36 (.t 31) 0⟩, ⟨none, .ext 37 (.t 31) 1⟩, ⟨none, .zer 9 2 (.ag [(.sc (.int .i64 0)), (.ls (some true) 7 [])])⟩, ⟨none, .st 2 (.t 9) (.t 36)⟩, ⟨none, .mv 10 (.t 37)⟩]) ((.seq ((.seq (.reg false [⟨none, .ld 38 true 2 (.t 9)⟩, ⟨none, .ld 39 true 2 (.t 6)⟩, ⟨none, .call (some 40) 35 [(.t 38), (.t 39)]⟩, ⟨none, .un 41 .not (.t 40)⟩, ⟨none, .mv 42 (.t 41)⟩, ⟨some (42, false), .mv 43 (.t 10)⟩, ⟨some (42, false), .mv 44 (.t 7)⟩, ⟨some (42, false), .bin 45 .neq (.t 43) (.t 44)⟩, ⟨none, .pick 46 (.t 42) (.c (.sc (.bool true))) (.t 45)⟩]) (.cond (.t 46) ((.seq (.reg false [⟨none, .mv 4 (.c (.sc (.bool false)))⟩]) (.ret))) (.skip)))) ((.seq ((.seq (.reg true [⟨none, .ld 47 true 6 (.t 8)⟩, ⟨none, .ld 48 true 6 (.t 3)⟩, ⟨none, .call (some 49) 33 [(.t 48)]⟩, ⟨none, .call (some 50) 36 [(.t 47), (.t 49)]⟩, ⟨none, .un 51 .not (.t 50)⟩]) (.cond (.t 51) ((.seq (.reg false [⟨none, .mv 4 (.c (.sc (.bool false)))⟩]) (.ret))) (.skip)))) ((.seq (.reg false [⟨none, .mv 11 (.c (.sc (.int .i64 1)))⟩]) ((.seq (.reg false [⟨none, .ld 52 true 6 (.t 8)⟩, ⟨none, .mv 53 (.t 11)⟩, ⟨none, .mcl 54 37 (.t 52) (.t 53)⟩, ⟨none, .mv 11 (.t 54)⟩]) ((.seq ((.seq (.reg false [⟨none, .mv 55 (.t 11)⟩, ⟨none, .bin 56 .lss (.t 55) (.c (.sc (.int .i64 0)))⟩, ⟨none, .mv 57 (.t 56)⟩, ⟨some (57, false), .ld 58 true 2 (.t 9)⟩, ⟨some (57, false), .ld 59 true 2 (.t 6)⟩, ⟨some (57, false), .call (some 60) 35 [(.t 58), (.t 59)]⟩, ⟨some (57, false), .un 61 .not (.t 60)⟩, ⟨none, .pick 62 (.t 57) (.c (.sc (.bool true))) (.t 61)⟩, ⟨none, .mv 63 (.t 62)⟩, ⟨some (63, false), .mv 64 (.t 10)⟩, ⟨some (63, false), .mv 65 (.t 7)⟩, ⟨some (63, false), .bin 66 .neq (.t 64) (.t 65)⟩, ⟨none, .pick 67 (.t 63) (.c (.sc (.bool true))) (.t 66)⟩]) (.cond (.t 67) ((.seq (.reg false [⟨none, .mv 4 (.c (.sc (.bool false)))⟩]) (.ret))) (.skip)))) ((.seq (.reg false [⟨none, .mv 12 (.c (.sc (.int .i64 1)))⟩]) ((.seq (.reg false [⟨none, .ld 68 true 2 (.t 9)⟩, ⟨none, .mv 69 (.t 12)⟩, ⟨none, .mcl 70 38 (.t 68) (.t 69)⟩, ⟨none, .mv 12 (.t 70)⟩]) ((.seq (.reg false [⟨none, .mv 13 (.c (.sc (.int .i64 1)))⟩]) ((.seq (.reg false [⟨none, .ld 71 true 2 (.t 9)⟩, ⟨none, .mv 72 (.t 13)⟩, ⟨none, .call (some 73) 39 [(.t 71), (.t 72)]⟩, ⟨none, .mv 13 (.t 73)⟩]) ((.seq ((.seq (.reg false [⟨none, .mv 74 (.t 13)⟩, ⟨none, .bin 75 .lss (.t 74) (.c (.sc (.int .i64 0)))⟩]) (.cond (.t 75) ((.seq (.reg false [⟨none, .mv 4 (.c (.sc (.bool false)))⟩]) (.ret))) (.skip)))) ((.seq ((.seq (.reg false [⟨none, .mv 76 (.t 13)⟩, ⟨none, .mv 77 (.t 12)⟩, ⟨none, .bin 78 .neq (.t 76) (.t 77)⟩]) (.cond (.t 78) ((.seq (.reg false [⟨none, .mv 4 (.c (.sc (.bool false)))⟩]) (.ret))) (.skip)))) ((.seq (.reg true [⟨none, .ld 80 true 2 (.t 2)⟩, ⟨none, .call (some 81) 26 [(.t 80)]⟩, ⟨none, .ld 82 true 6 (.t 3)⟩, ⟨none, .call (some 83) 33 [(.t 82)]⟩, ⟨none, .call (some 84) 34 [(.t 81), (.t 83)]⟩, ⟨none, .mv 79 (.t 84)⟩, ⟨none, .ext 85 (.t 79) 0⟩, ⟨none, .ext 86 (.t 79) 1⟩, ⟨none, .zer 14 2 (.ag [(.sc (.int .i64 0)), (.ls (some true) 7 [])])⟩, ⟨none, .st 2 (.t 14) (.t 85)⟩, ⟨none, .mv 15 (.t 86)⟩]) ((.seq ((.seq (.reg false [⟨none, .ld 87 true 2 (.t 14)⟩, ⟨none, .ld 88 true 2 (.t 6)⟩, ⟨none, .call (some 89) 35 [(.t 87), (.t 88)]⟩, ⟨none, .un 90 .not (.t 89)⟩, ⟨none, .mv 91 (.t 90)⟩, ⟨some (91, false), .mv 92 (.t 15)⟩, ⟨some (91, false), .mv 93 (.t 7)⟩, ⟨some (91, false), .bin 94 .neq (.t 92) (.t 93)⟩, ⟨none, .pick 95 (.t 91) (.c (.sc (.bool true))) (.t 94)⟩]) (.cond (.t 95) ((.seq (.reg false [⟨none, .mv 4 (.c (.sc (.bool false)))⟩]) (.ret))) (.skip)))) ((.seq (.reg false [⟨none, .mv 13 (.c (.sc (.int .i64 1)))⟩]) ((.seq (.reg false [⟨none, .ld 96 true 2 (.t 9)⟩, ⟨none, .mv 97 (.t 13)⟩, ⟨none, .call (some 98) 39 [(.t 96), (.t 97)]⟩, ⟨none, .mv 13 (.t 98)⟩]) ((.seq ((.seq (.reg false [⟨none, .mv 99 (.t 13)⟩, ⟨none, .bin 100 .lss (.t 99) (.c (.sc (.int .i64 0)))⟩]) (.cond (.t 100) ((.seq (.reg false [⟨none, .mv 4 (.c (.sc (.bool false)))⟩]) (.ret))) (.skip)))) ((.seq ((.seq (.reg false [⟨none, .mv 101 (.t 13)⟩, ⟨none, .mv 102 (.t 12)⟩, ⟨none, .bin 103 .neq (.t 101) (.t 102)⟩]) (.cond (.t 103) ((.seq (.reg false [⟨none, .mv 4 (.c (.sc (.bool false)))⟩]) (.ret))) (.skip)))) ((.seq (.reg false [⟨none, .mv 4 (.c (.sc (.bool true)))⟩]) (.ret))))))))))))))))))))))))))))))))))))))))))))))))))
theorem res5 : resF Try.prog 5 = some (104, rc5, [.t 4]) := by kernel_rfl
noncomputable def famExpr : Fam Try.prog eE 40 43 46 := famE mixed res40 res41 res43 res44 res46 res47
theorem famExpr_t (x) : famExpr.t x = tE x := rfl
noncomputable def famProg : Fam Try.prog eP 31 33 36 := famPg mixed famExpr ⟨rfl, rfl, rfl, rfl⟩ res31 res119 res33 res122 res36 res126
theorem famProg_t (x) : famProg.t x = tP x := rfl
noncomputable def qSpot (a b : Sp) : Bool := ((a.1 == b.1) && ((a.2.1 == b.2.1) && (famExpr.q a.2.2.1 b.2.2.1 && ((a.2.2.2.1 == b.2.2.2.1) && (a.2.2.2.2 == b.2.2.2.2)))))
theorem af220 (a b : Sp) : AF Try.prog 220 [eSp a, eSp b] (.own (eB (qSpot a b))) := by
  refine af_of_res res220 mixed rfl fun _ => ?_
  cases e0 : (a.1 == b.1)
  · simp +contextual -implicitDefEqProofs only [rc220, qSpot, bne, Bool.not_false, Bool.false_and, Bool.and_true, eSp, e0, go_sem, eI, eB, ↓reduceIte, Nat.reduceEqDiff, Nat.reduceAdd, Nat.reduceLeDiff, Nat.reduceBEq, Nat.reduceLT, Bool.false_eq_true, List.cons_append, List.nil_append]
  cases e1 : (a.2.1 == b.2.1)
  · simp +contextual -implicitDefEqProofs only [rc220, qSpot, bne, Bool.not_true, Bool.not_false, Bool.false_and, Bool.and_true, Bool.and_false, eSp, e0, e1, go_sem, eI, eB, ↓reduceIte, Nat.reduceEqDiff, Nat.reduceAdd, Nat.reduceLeDiff, Nat.reduceBEq, Nat.reduceLT, Bool.false_eq_true, List.cons_append, List.nil_append]
  simp +contextual -implicitDefEqProofs only [rc220, qSpot, bne, Bool.not_true, Bool.not_false, Bool.true_and, Bool.and_true, eSp, e0, e1, go_sem, eI, eB, ↓reduceIte, Nat.reduceEqDiff, Nat.reduceAdd, Nat.reduceLeDiff, Nat.reduceBEq, Nat.reduceLT, Bool.false_eq_true, List.cons_append, List.nil_append]
  refine callQ_self ?_ (famExpr.afQ a.2.2.1 b.2.2.1) ?_
  · first | exact rfl | (simp only [eE_eta]; exact rfl)
  cases e2 : famExpr.q a.2.2.1 b.2.2.1
  · simp +contextual -implicitDefEqProofs only [Bool.not_false, Bool.false_and, go_sem, eB, ↓reduceIte]
  cases e3 : (a.2.2.2.1 == b.2.2.2.1)
  · simp +contextual -implicitDefEqProofs only [bne, Bool.not_true, Bool.not_false, Bool.false_and, Bool.and_false, e3, go_sem, eB, ↓reduceIte, Nat.reduceEqDiff, Nat.reduceAdd, Nat.reduceLeDiff, Nat.reduceLT, Bool.false_eq_true]
  cases e4 : (a.2.2.2.2 == b.2.2.2.2)
  · simp +contextual -implicitDefEqProofs only [bne, Bool.not_true, Bool.not_false, Bool.and_false, e3, e4, go_sem, eB, ↓reduceIte, Nat.reduceEqDiff, Nat.reduceAdd, Nat.reduceLeDiff, Nat.reduceLT, Bool.false_eq_true]
  · simp +contextual -implicitDefEqProofs only [bne, Bool.not_true, Bool.and_true, e3, e4, go_sem, eB, ↓reduceIte, Nat.reduceEqDiff, Nat.reduceAdd, Nat.reduceLeDiff, Nat.reduceLT, Bool.false_eq_true]
theorem qSpot_refl (m : Sp) : qSpot m m = true := by simp [qSpot, famExpr.q_refl]
noncomputable def qSpotS (a b : SL Sp) : Bool := eqL qSpot a.2 b.2
theorem qSpotS_refl (a : SL Sp) : qSpotS a a = true := eqL_refl fun x _ => qSpot_refl x
theorem afEqSpotS (a b : SL Sp) : AF Try.prog 125 [eS 7 eSp a, eS 7 eSp b] (.own (eB (qSpotS a b))) := af_eqC mixed encSp res125 qSpot a b fun x _ y _ => af220 x y
noncomputable def qFlow (a b : Fl) : Bool := ((a.1 == b.1) && qSpotS a.2 b.2)
theorem af35 (a b : Fl) : AF Try.prog 35 [eFl a, eFl b] (.own (eB (qFlow a b))) := by
  refine af_of_res res35 mixed rfl fun _ => ?_
  cases e0 : (a.1 == b.1)
  · simp +contextual -implicitDefEqProofs only [rc35, qFlow, bne, Bool.not_false, Bool.false_and, Bool.and_true, eFl, eS, e0, go_sem, eI, eB, ↓reduceIte, Nat.reduceEqDiff, Nat.reduceAdd, Nat.reduceLeDiff, Nat.reduceBEq, Nat.reduceLT, Bool.false_eq_true, List.cons_append, List.nil_append]
  simp +contextual -implicitDefEqProofs only [rc35, qFlow, bne, Bool.not_true, Bool.not_false, Bool.true_and, Bool.and_true, eFl, eS, e0, go_sem, eI, eB, ↓reduceIte, Nat.reduceEqDiff, Nat.reduceAdd, Nat.reduceLeDiff, Nat.reduceBEq, Nat.reduceLT, Bool.false_eq_true, List.cons_append, List.nil_append]
  refine callQ_self ?_ (afEqSpotS a.2 b.2) ?_
  · first | exact rfl | (simp only [eE_eta]; exact rfl)
  cases e1 : qSpotS a.2 b.2
  · simp +contextual -implicitDefEqProofs only [Bool.not_false, go_sem, eB, ↓reduceIte]
  · simp +contextual -implicitDefEqProofs only [Bool.not_true, go_sem, eB, ↓reduceIte]
theorem qFlow_refl (m : Fl) : qFlow m m = true := by simp [qFlow, qSpotS_refl]
theorem law (g : Int × Int) (q : Pg) : AF Try.prog 5 [eG g, eP q] (.own (eB true)) := by
  obtain ⟨qk, qn, qck, qcn, qcnn, qcks, qnn, qks, rfl⟩ := Pg.ex q
  rw [eP_mk2]
  refine af_of_res res5 mixed rfl fun hbd => ?_
  simp +contextual -implicitDefEqProofs only [rc5, eG, eI, eB, go_sem, ↓reduceIte, Nat.reduceEqDiff, Nat.reduceAdd, Nat.reduceLeDiff, Nat.reduceBneDiff, Nat.reduceLT, Bool.false_eq_true, List.cons_append, List.nil_append]
  refine callQ_self (ds := [eP (Pg.mk qk qn (.mk qck qcn qcnn qcks) qnn qks), eI 1048576]) ?_ (famProg.afS (Pg.mk qk qn (.mk qck qcn qcnn qcks) qnn qks) 1048576 (by omega) (by omega)) ?_
  · simp only [eP_mk2, eI]; exact rfl
  simp +contextual -implicitDefEqProofs only [eI, go_sem, ↓reduceIte, Nat.reduceEqDiff, Nat.reduceLeDiff, Bool.false_eq_true]
  have sb0 := famProg.s_in (Pg.mk qk qn (.mk qck qcn qcnn qcks) qnn qks) 1048576 (by omega) (by omega)
  refine fun hs0 => ?_
  have hf0 := famProg.s_fit (Pg.mk qk qn (.mk qck qcn qcnn qcks) qnn qks) 1048576 (by omega) (by omega) (by omega)
  refine callQ_self (ds := [eG g]) ?_ (af26 g) ?_
  · simp only [eG, eI]; exact rfl
  simp +contextual -implicitDefEqProofs only [eG, eI, go_sem, ↓reduceIte, Nat.reduceEqDiff, Nat.reduceLeDiff, Bool.false_eq_true]
  have hto := famProg.afT (Pg.mk qk qn (.mk qck qcn qcnn qcks) qnn qks) hf0
  have hfT : fitP (famProg.t (Pg.mk qk qn (.mk qck qcn qcnn qcks) qnn qks)) := fitP_tP _ hf0
  have hsp := af32 g (famProg.t (Pg.mk qk qn (.mk qck qcn qcnn qcks) qnn qks)) hfT
  have him := af34 g (famProg.t (Pg.mk qk qn (.mk qck qcn qcnn qcks) qnn qks)) hfT
  have hqP := famProg.afQ (famProg.t (Pg.mk qk qn (.mk qck qcn qcnn qcks) qnn qks)) (famProg.t (Pg.mk qk qn (.mk qck qcn qcnn qcks) qnn qks))
  rw [famProg.q_refl] at hqP
  have hc0 : (cntP0 (famProg.t (Pg.mk qk qn (.mk qck qcn qcnn qcks) qnn qks)) : Int) ≤ 8388608 := by
    have h := szP_cnt (Pg.mk qk qn (.mk qck qcn qcnn qcks) qnn qks) 1048576 (by omega) (by omega) (Int.not_lt.1 hs0)
    have e : cntP0 (famProg.t (Pg.mk qk qn (.mk qck qcn qcnn qcks) qnn qks)) = cntP0 (Pg.mk qk qn (.mk qck qcn qcnn qcks) qnn qks) := cntP0_tP _
    have h' : 0 ≤ szP (Pg.mk qk qn (.mk qck qcn qcnn qcks) qnn qks) 1048576 := Int.not_lt.1 hs0
    rw [e]; omega
  have hM0 := af37 (famProg.t (Pg.mk qk qn (.mk qck qcn qcnn qcks) qnn qks)) 1 (by omega) (by unfold maxK; omega)
  have hcR := flowR_cnt g (famProg.t (Pg.mk qk qn (.mk qck qcn qcnn qcks) qnn qks))
  generalize flowR g (famProg.t (Pg.mk qk qn (.mk qck qcn qcnn qcks) qnn qks)) = r at hsp him hcR
  generalize mkP0 (famProg.t (Pg.mk qk qn (.mk qck qcn qcnn qcks) qnn qks)) 1 = mP at hM0
  generalize cntP0 (famProg.t (Pg.mk qk qn (.mk qck qcn qcnn qcks) qnn qks)) = cP at hM0 hc0
  generalize famProg.t (Pg.mk qk qn (.mk qck qcn qcnn qcks) qnn qks) = wP at hto hsp him hqP hM0
  obtain ⟨wk, wn, wck, wcn, wcnn, wcks, wnn, wks, rfl⟩ := Pg.ex wP
  obtain ⟨mk_, mn, mck, mcn, mcnn, mcks, mnn, mks, rfl⟩ := Pg.ex mP
  obtain ⟨⟨rs, rnn, rxs⟩, c⟩ := r
  simp only at hsp him hcR
  have hqF := af35 (rs, (rnn, rxs)) (rs, (rnn, rxs))
  rw [qFlow_refl] at hqF
  have hM1 := af38 rs rnn rxs 1 (by omega) (by unfold maxK; omega)
  have hH1 := af39 rs rnn rxs 1 (by omega) (by unfold maxK; omega)
  generalize cntL cntSp rxs = cR at hM1 hH1 hcR
  generalize mkL mkSp cntSp rxs 1 = ys at hM1 hH1
  have hk0 : ¬ (1 + (cP : Int) < 0) := by omega
  have hk1 : ¬ (1 + (cR : Int) < 0) := by omega
  simp only [eP_mk2, eFl_mk] at hto hsp him hqP hqF hM0 hM1 hH1
  refine callQ_self ?_ (hto) ?_
  · exact rfl
  simp +contextual -implicitDefEqProofs only [go_sem, ↓reduceIte, Nat.reduceEqDiff, Nat.reduceBneDiff, Bool.false_eq_true, List.cons_append, List.nil_append]
  refine callQ_self ?_ (hsp) ?_
  · exact rfl
  simp +contextual -implicitDefEqProofs only [eI, go_sem, ↓reduceIte, Nat.reduceEqDiff, Nat.reduceAdd, Nat.reduceLeDiff, Nat.reduceBEq, Nat.reduceBneDiff, Nat.reduceLT, Bool.false_eq_true, List.cons_append, List.nil_append]
  refine callQ_self ?_ (hto) ?_
  · exact rfl
  simp +contextual -implicitDefEqProofs only [go_sem, ↓reduceIte, Nat.reduceEqDiff, Nat.reduceAdd, Nat.reduceLeDiff, Nat.reduceBEq, Nat.reduceBneDiff, Nat.reduceLT, Bool.false_eq_true, List.cons_append, List.nil_append]
  refine callQ_self (ds := [eG g]) ?_ (af26 g) ?_
  · simp only [eG, eI]; exact rfl
  simp +contextual -implicitDefEqProofs only [eG, eI, go_sem, ↓reduceIte, Nat.reduceEqDiff, Nat.reduceLeDiff, Bool.false_eq_true]
  refine callQ_self ?_ (him) ?_
  · exact rfl
  simp +contextual -implicitDefEqProofs only [eI, go_sem, ↓reduceIte, Nat.reduceEqDiff, Nat.reduceAdd, Nat.reduceLeDiff, Nat.reduceBEq, Nat.reduceBneDiff, Nat.reduceLT, Bool.false_eq_true, List.cons_append, List.nil_append]
  refine callQ_self ?_ (hqF) ?_
  · exact rfl
  simp +contextual -implicitDefEqProofs only [Bool.not_true, eB, bne_self_eq_false, go_sem, ↓reduceIte, Nat.reduceEqDiff, Nat.reduceLeDiff, Bool.false_eq_true]
  refine callQ_self ?_ (hto) ?_
  · exact rfl
  simp +contextual -implicitDefEqProofs only [go_sem, ↓reduceIte, Nat.reduceEqDiff, Nat.reduceBneDiff, Bool.false_eq_true, List.cons_append, List.nil_append]
  refine callQ_self ?_ (hqP) ?_
  · exact rfl
  simp +contextual -implicitDefEqProofs only [Bool.not_true, eB, go_sem, ↓reduceIte, Nat.reduceEqDiff, Nat.reduceLeDiff, Bool.false_eq_true]
  refine ⟨eP (Pg.mk mk_ mn (.mk mck mcn mcnn mcks) mnn mks), 1 + cP, (by rw [eP_mk2]; exact hM0), ⟨rfl, fun _ => rfl, rfl⟩, ?_⟩
  simp +contextual -implicitDefEqProofs only [hk0, D.put, D.isAg, D.at, D.sub, eP_mk2, go_sem, ↓reduceIte, Nat.reduceEqDiff, Nat.reduceLeDiff, Nat.reduceBEq, Bool.false_eq_true]
  refine callQ_self ?_ (hqF) ?_
  · exact rfl
  simp +contextual -implicitDefEqProofs only [Bool.not_true, eB, bne_self_eq_false, go_sem, ↓reduceIte, Nat.reduceEqDiff, Nat.reduceLeDiff, Bool.false_eq_true]
  refine ⟨eFl (rs, (rnn, ys)), 1 + cR, (by rw [eFl_mk]; exact hM1), ⟨rfl, fun _ => rfl, rfl⟩, ?_⟩
  simp +contextual -implicitDefEqProofs only [D.put, D.isAg, D.at, D.sub, eFl_mk, go_sem, ↓reduceIte, Nat.reduceEqDiff, Nat.reduceLeDiff, Nat.reduceBEq, Bool.false_eq_true]
  refine callQ_self ?_ (hH1) ?_
  · exact rfl
  simp +contextual -implicitDefEqProofs only [hk1, eI, bne_self_eq_false, go_sem, ↓reduceIte, Nat.reduceEqDiff, Nat.reduceLeDiff, Bool.false_eq_true]
  refine callQ_self (ds := [eG g]) ?_ (af26 g) ?_
  · simp only [eG, eI]; exact rfl
  simp +contextual -implicitDefEqProofs only [eG, eI, go_sem, ↓reduceIte, Nat.reduceEqDiff, Nat.reduceLeDiff, Bool.false_eq_true]
  refine callQ_self ?_ (hto) ?_
  · exact rfl
  simp +contextual -implicitDefEqProofs only [go_sem, ↓reduceIte, Nat.reduceEqDiff, Nat.reduceBneDiff, Bool.false_eq_true, List.cons_append, List.nil_append]
  refine callQ_self ?_ (him) ?_
  · exact rfl
  simp +contextual -implicitDefEqProofs only [eI, go_sem, ↓reduceIte, Nat.reduceEqDiff, Nat.reduceAdd, Nat.reduceLeDiff, Nat.reduceBEq, Nat.reduceBneDiff, Nat.reduceLT, Bool.false_eq_true, List.cons_append, List.nil_append]
  refine callQ_self ?_ (hqF) ?_
  · exact rfl
  simp +contextual -implicitDefEqProofs only [Bool.not_true, eB, bne_self_eq_false, go_sem, ↓reduceIte, Nat.reduceEqDiff, Nat.reduceLeDiff, Bool.false_eq_true]
  refine callQ_self ?_ (hH1) ?_
  · exact rfl
  simp +contextual -implicitDefEqProofs only [hk1, eI, bne_self_eq_false, go_sem, ↓reduceIte, Nat.reduceEqDiff]
end Go.Ax
