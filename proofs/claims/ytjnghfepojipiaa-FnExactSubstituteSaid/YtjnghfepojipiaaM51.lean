/- Contracts of functions of the seat, proved over the engine. No condition. -/
import Derived.Test.YtjnghfepojipiaaX72
import Derived.Test.YtjnghfepojipiaaChecked
set_option linter.unusedSimpArgs false
set_option linter.unusedVariables false
set_option linter.unnecessarySimpa false
namespace Go.Ax
set_option linter.unusedSimpArgs false
open Go.Proofs
theorem mixed : Try.prog.follows .mixedOrders = true := by kernel_rfl
theorem res41 : resF Try.prog 41 = some (27, cSzC 40 3 true, [.t 4]) := by kernel_rfl
theorem res40 : resF Try.prog 40 = some (12, k_szExpr 41, [.t 4]) := by kernel_rfl
theorem res26 : resF Try.prog 26 = some (11, k_toSig, [.c 2 2 true]) := by kernel_rfl
theorem af26 : K_toSig Try.prog 26 := a_toSig mixed res26
theorem res44 : resF Try.prog 44 = some (23, cToC 43 3 40 true (.ag [(.sc (.int .i64 0)), (.sc (.int .i64 0)), (.ls (some true) 3 [])]), [.t 2]) := by kernel_rfl
theorem res43 : resF Try.prog 43 = some (15, k_toExpr 44, [.c 2 3 true]) := by kernel_rfl
theorem res109 : resF Try.prog 109 = some (15, k_l00In, [.t 6]) := by kernel_rfl
theorem af109 : K_l00In Try.prog 109 := a_l00In mixed res109
theorem res130 : resF Try.prog 130 = some (11, k_l01Sig 109, [.t 2]) := by kernel_rfl
theorem af130 : K_l01Sig Try.prog 130 := a_l01Sig mixed res130 af109
theorem res132 : resF Try.prog 132 = some (2, k_l04Wide, [.c 0 2 true]) := by kernel_rfl
theorem af132 : K_l04Wide Try.prog 132 := a_l04Wide mixed res132
theorem res221 : resF Try.prog 221 = some (30, k_l01Left 221, [.t 4]) := by kernel_rfl
theorem af221 : K_l01Left Try.prog 221 := a_l01Left mixed res221
theorem res224 : resF Try.prog 224 = some (10, k_l00Max, [.t 4]) := by kernel_rfl
theorem af224 : K_l00Max Try.prog 224 := a_l00Max mixed res224
theorem res222 : resF Try.prog 222 = some (25, k_l01Depth 222 224, [.t 2]) := by kernel_rfl
theorem af222 : K_l01Depth Try.prog 222 := a_l01Depth mixed res222 af224
theorem res275 : resF Try.prog 275 = some (15, k_l01Kids, [.t 2]) := by kernel_rfl
theorem af275 : K_l01Kids Try.prog 275 := a_l01Kids mixed res275
theorem res157 : resF Try.prog 157 = some (34, k_l01Condition 157 109, [.t 2]) := by kernel_rfl
theorem af157 : K_l01Condition Try.prog 157 := a_l01Condition mixed res157 af109
theorem res223 : resF Try.prog 223 = some (80, k_l01Tree 223 275 109 157, [.t 4]) := by kernel_rfl
theorem af223 : K_l01Tree Try.prog 223 := a_l01Tree mixed res223 af275 af109 af157
theorem res131 : resF Try.prog 131 = some (22, k_l01Ok 130 221 222 223, [.t 4]) := by kernel_rfl
theorem af131 : K_l01Ok Try.prog 131 := a_l01Ok mixed res131 af130 af221 af222 af223
theorem res133 : resF Try.prog 133 = some (18, k_l04Valid 131, [.t 4]) := by kernel_rfl
theorem af133 : K_l04Valid Try.prog 133 := a_l04Valid mixed res133 af131
theorem res134 : resF Try.prog 134 = some (15, k_l04Conditions 157, [.t 2]) := by kernel_rfl
theorem af134 : K_l04Conditions Try.prog 134 := a_l04Conditions mixed res134 af157
theorem res135 : resF Try.prog 135 = some (57, k_l04Top 135 224, []) := by kernel_rfl
theorem af135 : K_l04Top Try.prog 135 := a_l04Top mixed res135 af224
theorem res136 : resF Try.prog 136 = some (40, k_l04Needs 136, [.t 6]) := by kernel_rfl
theorem af136 : K_l04Needs Try.prog 136 := a_l04Needs mixed res136
theorem res254 : resF Try.prog 254 = some (2, k_l02One, [.c 0 3 true]) := by kernel_rfl
theorem af254 : K_l02One Try.prog 254 := a_l02One mixed res254
theorem res158 : resF Try.prog 158 = some (24, k_l01Size 158, [.t 2]) := by kernel_rfl
theorem af158 : K_l01Size Try.prog 158 := a_l01Size mixed res158
theorem res217 : resF Try.prog 217 = some (36, k_l01Own 217, [.c 2 3 true]) := by kernel_rfl
theorem af217 : K_l01Own Try.prog 217 := a_l01Own mixed res217
theorem res225 : resF Try.prog 225 = some (103, k_l04Put 225 254 158 217, [.c 8 3 true]) := by kernel_rfl
theorem af225 : K_l04Put Try.prog 225 := a_l04Put mixed res225 af254 af158 af217
theorem res137 : resF Try.prog 137 = some (23, k_l04Sub 225 131, [.c 8 3 true, .t 9]) := by kernel_rfl
theorem af137 : K_l04Sub Try.prog 137 := a_l04Sub mixed res137 af225 af131
theorem res42 : resF Try.prog 42 = some (72, k_spSubstitute 130 132 131 133 134 135 136 137, [.c 8 3 true, .t 9]) := by kernel_rfl
theorem af42 : K_spSubstitute Try.prog 42 := a_spSubstitute mixed res42 af130 af132 af131 af133 af134 af135 af136 af137
theorem res115 : resF Try.prog 115 = some (15, k_within, [.t 6]) := by kernel_rfl
theorem af115 : K_within Try.prog 115 := a_within mixed res115
theorem res138 : resF Try.prog 138 = some (11, k_validSig 115, [.t 2]) := by kernel_rfl
theorem af138 : K_validSig Try.prog 138 := a_validSig mixed res138 af115
theorem res140 : resF Try.prog 140 = some (2, k_patternSig, [.c 0 2 true]) := by kernel_rfl
theorem af140 : K_patternSig Try.prog 140 := a_patternSig mixed res140
theorem res276 : resF Try.prog 276 = some (15, k_kidsOf, [.t 2]) := by kernel_rfl
theorem af276 : K_kidsOf Try.prog 276 := a_kidsOf mixed res276
theorem res227 : resF Try.prog 227 = some (25, k_isCondition 227, [.t 2]) := by kernel_rfl
theorem af227 : K_isCondition Try.prog 227 := a_isCondition mixed res227
theorem res226 : resF Try.prog 226 = some (86, k_shaped 226 276 115 227, [.t 8, .t 9]) := by kernel_rfl
theorem af226 : K_shaped Try.prog 226 := a_shaped mixed res226 af276 af115 af227
theorem res139 : resF Try.prog 139 = some (14, k_isExpr 226, [.t 4]) := by kernel_rfl
theorem af139 : K_isExpr Try.prog 139 := a_isExpr mixed res139 af226
theorem res141 : resF Try.prog 141 = some (20, k_validExprs 139 138, [.t 4]) := by kernel_rfl
theorem af141 : K_validExprs Try.prog 141 := a_validExprs mixed res141 af139 af138
theorem res142 : resF Try.prog 142 = some (15, k_areConditions 227, [.t 2]) := by kernel_rfl
theorem af142 : K_areConditions Try.prog 142 := a_areConditions mixed res142 af227
theorem res143 : resF Try.prog 143 = some (43, k_full 143, [.t 2, .t 3]) := by kernel_rfl
theorem af143 : K_full Try.prog 143 := a_full mixed res143
theorem res155 : resF Try.prog 155 = some (27, k_copyExpr 155, [.c 2 3 true]) := by kernel_rfl
theorem af155 : K_copyExpr Try.prog 155 := a_copyExpr mixed res155
theorem res228 : resF Try.prog 228 = some (61, k_filled 228 155, [.c 6 3 true]) := by kernel_rfl
theorem af228 : K_filled Try.prog 228 := a_filled mixed res228 af155
theorem res144 : resFw Try.prog .ap 144 = some (25, k_instance 228 139, [.c 8 3 true, .t 9]) := by kernel_rfl
theorem af144 : K_instance Try.prog 144 := a_instance mixed res144 af228 af139
theorem res45 : resF Try.prog 45 = some (61, k_imSubstitute 138 140 139 141 142 143 144, [.c 8 3 true, .t 9]) := by kernel_rfl
theorem af45 : K_imSubstitute Try.prog 45 := a_imSubstitute mixed res45 af138 af140 af139 af141 af142 af143 af144
theorem res47 : resF Try.prog 47 = some (27, cEqC 46 3 true, [.t 4]) := by kernel_rfl
theorem res46 : resF Try.prog 46 = some (21, k_eqExpr 47, [.t 4]) := by kernel_rfl
theorem res145 : resF Try.prog 145 = some (40, k_heldExprS 145, [.t 4]) := by kernel_rfl
theorem af145 : K_heldExprS Try.prog 145 := a_heldExprS mixed res145
theorem res50 : resF Try.prog 50 = some (12, k_heldExpr 145, [.t 4]) := by kernel_rfl
theorem af50 : K_heldExpr Try.prog 50 := a_heldExpr mixed res50 af145
theorem res49 : resF Try.prog 49 = some (34, k_markExprS 49, [.t 4]) := by kernel_rfl
theorem af49 : K_markExprS Try.prog 49 := a_markExprS mixed res49
theorem res48 : resF Try.prog 48 = some (10, k_markExpr 49, [.t 4]) := by kernel_rfl
theorem af48 : K_markExpr Try.prog 48 := a_markExpr mixed res48 af49

def rc6 : RC := (.seq (.reg false [⟨none, .box 4 2 (.t 0)⟩, ⟨none, .box 5 3 (.t 1)⟩, ⟨none, .mv 8 (.c (.sc (.bool false)))⟩]) ((.seq (.reg false [⟨none, .mv 9 (.c (.sc (.int .i64 1048576)))⟩]) ((.seq (.reg false [⟨none, .ld 22 true 3 (.t 5)⟩, ⟨none, .mv 23 (.t 9)⟩, ⟨none, .call (some 24) 40 [(.t 22), (.t 23)]⟩, ⟨none, .mv 9 (.t 24)⟩]) ((.seq ((.seq (.reg false [⟨none, .mv 25 (.t 9)⟩, ⟨none, .bin 26 .lss (.t 25) (.c (.sc (.int .i64 0)))⟩]) (.cond (.t 26) ((.seq (.reg false [⟨none, .mv 8 (.c (.sc (.bool true)))⟩]) (.ret))) (.skip)))) ((.seq (.reg false [⟨none, .mv 27 (.t 2)⟩, ⟨none, .mv 28 (.t 9)⟩, ⟨none, .call (some 29) 41 [(.t 27), (.t 28)]⟩, ⟨none, .mv 9 (.t 29)⟩]) ((.seq ((.seq (.reg false [⟨none, .mv 30 (.t 9)⟩, ⟨none, .bin 31 .lss (.t 30) (.c (.sc (.int .i64 0)))⟩]) (.cond (.t 31) ((.seq (.reg false [⟨none, .mv 8 (.c (.sc (.bool true)))⟩]) (.ret))) (.skip)))) ((.seq (.reg false [⟨none, .mv 32 (.t 3)⟩, ⟨none, .mv 33 (.t 9)⟩, ⟨none, .call (some 34) 41 [(.t 32), (.t 33)]⟩, ⟨none, .mv 9 (.t 34)⟩]) ((.seq ((.seq (.reg false [⟨none, .mv 35 (.t 9)⟩, ⟨none, .bin 36 .lss (.t 35) (.c (.sc (.int .i64 0)))⟩]) (.cond (.t 36) ((.seq (.reg false [⟨none, .mv 8 (.c (.sc (.bool true)))⟩]) (.ret))) (.skip)))) ((.seq (.reg true [⟨none, .ld 38 true 2 (.t 4)⟩, ⟨none, .call (some 39) 26 [(.t 38)]⟩, ⟨none, .ld 40 true 3 (.t 5)⟩, ⟨none, .call (some 41) 43 [(.t 40)]⟩, ⟨none, .mv 42 (.t 2)⟩, ⟨none, .call (some 43) 44 [(.t 42)]⟩, ⟨none, .mv 44 (.t 3)⟩, ⟨none, .call (some 45) 44 [(.t 44)]⟩, ⟨none, .call (some 46) 42 [(.t 39), (.t 41), (.t 43), (.t 45)]⟩, ⟨none, .mv 37 (.t 46)⟩, ⟨none, .ext 47 (.t 37) 0⟩, ⟨none, .ext 48 (.t 37) 1⟩, ⟨none, .zer 10 3 (.ag [(.sc (.int .i64 0)), (.sc (.int .i64 0)), (.ls (some true) 3 [])])⟩, ⟨none, .st 3 (.t 10) (.t 47)⟩, ⟨none, .mv 11 (.t 48)⟩]) ((.seq (.reg false [⟨none, .ld 49 true 3 (.t 5)⟩, ⟨none, .call (some 50) 43 [(.t 49)]⟩, ⟨none, .zer 12 3 (.ag [(.sc (.int .i64 0)), (.sc (.int .i64 0)), (.ls (some true) 3 [])])⟩, ⟨none, .st 3 (.t 12) (.t 50)⟩]) ((.seq (.reg false [⟨none, .mv 51 (.t 2)⟩, ⟨none, .call (some 52) 44 [(.t 51)]⟩, ⟨none, .mv 13 (.t 52)⟩]) ((.seq (.reg false [⟨none, .mv 53 (.t 3)⟩, ⟨none, .call (some 54) 44 [(.t 53)]⟩, ⟨none, .mv 14 (.t 54)⟩]) ((.seq (.reg true [⟨none, .ld 56 true 2 (.t 4)⟩, ⟨none, .call (some 57) 26 [(.t 56)]⟩, ⟨none, .ld 58 true 3 (.t 12)⟩, ⟨none, .mv 59 (.t 13)⟩, ⟨none, .mv 60 (.t 14)⟩, ⟨none, .call (some 61) 45 [(.t 57), (.t 58), (.t 59), (.t 60)]⟩, ⟨none, .mv 55 (.t 61)⟩, ⟨none, .ext 62 (.t 55) 0⟩, ⟨none, .ext 63 (.t 55) 1⟩, ⟨none, .zer 15 3 (.ag [(.sc (.int .i64 0)), (.sc (.int .i64 0)), (.ls (some true) 3 [])])⟩, ⟨none, .st 3 (.t 15) (.t 62)⟩, ⟨none, .mv 16 (.t 63)⟩]) ((.seq ((.seq (.reg false [⟨none, .ld 64 true 3 (.t 15)⟩, ⟨none, .ld 65 true 3 (.t 10)⟩, ⟨none, .call (some 66) 46 [(.t 64), (.t 65)]⟩, ⟨none, .un 67 .not (.t 66)⟩, ⟨none, .mv 68 (.t 67)⟩, ⟨some (68, false), .mv 69 (.t 16)⟩, ⟨some (68, false), .mv 70 (.t 11)⟩, ⟨some (68, false), .bin 71 .neq (.t 69) (.t 70)⟩, ⟨none, .pick 72 (.t 68) (.c (.sc (.bool true))) (.t 71)⟩]) (.cond (.t 72) ((.seq (.reg false [⟨none, .mv 8 (.c (.sc (.bool false)))⟩]) (.ret))) (.skip)))) ((.seq ((.seq (.reg true [⟨none, .ld 73 true 3 (.t 12)⟩, ⟨none, .ld 74 true 3 (.t 5)⟩, ⟨none, .call (some 75) 43 [(.t 74)]⟩, ⟨none, .call (some 76) 46 [(.t 73), (.t 75)]⟩, ⟨none, .un 77 .not (.t 76)⟩]) (.cond (.t 77) ((.seq (.reg false [⟨none, .mv 8 (.c (.sc (.bool false)))⟩]) (.ret))) (.skip)))) ((.seq ((.seq (.reg false [⟨none, .mv 78 (.t 13)⟩, ⟨none, .mv 79 (.t 2)⟩, ⟨none, .call (some 80) 44 [(.t 79)]⟩, ⟨none, .call (some 81) 47 [(.t 78), (.t 80)]⟩, ⟨none, .un 82 .not (.t 81)⟩]) (.cond (.t 82) ((.seq (.reg false [⟨none, .mv 8 (.c (.sc (.bool false)))⟩]) (.ret))) (.skip)))) ((.seq ((.seq (.reg false [⟨none, .mv 83 (.t 14)⟩, ⟨none, .mv 84 (.t 3)⟩, ⟨none, .call (some 85) 44 [(.t 84)]⟩, ⟨none, .call (some 86) 47 [(.t 83), (.t 85)]⟩, ⟨none, .un 87 .not (.t 86)⟩]) (.cond (.t 87) ((.seq (.reg false [⟨none, .mv 8 (.c (.sc (.bool false)))⟩]) (.ret))) (.skip)))) ((.seq (.reg false [⟨none, .mv 17 (.c (.sc (.int .i64 1)))⟩]) ((.seq (.reg false [⟨none, .ld 88 true 3 (.t 12)⟩, ⟨none, .mv 89 (.t 17)⟩, ⟨none, .mcl 90 48 (.t 88) (.t 89)⟩, ⟨none, .mv 17 (.t 90)⟩]) ((.seq (.reg false [⟨none, .mv 91 (.t 13)⟩, ⟨none, .mv 92 (.t 17)⟩, ⟨none, .mcl 93 49 (.t 91) (.t 92)⟩, ⟨none, .mv 17 (.t 93)⟩]) ((.seq (.reg false [⟨none, .mv 94 (.t 14)⟩, ⟨none, .mv 95 (.t 17)⟩, ⟨none, .mcl 96 49 (.t 94) (.t 95)⟩, ⟨none, .mv 17 (.t 96)⟩]) ((.seq ((.seq (.reg false [⟨none, .mv 97 (.t 17)⟩, ⟨none, .bin 98 .lss (.t 97) (.c (.sc (.int .i64 0)))⟩, ⟨none, .mv 99 (.t 98)⟩, ⟨some (99, false), .ld 100 true 3 (.t 15)⟩, ⟨some (99, false), .ld 101 true 3 (.t 10)⟩, ⟨some (99, false), .call (some 102) 46 [(.t 100), (.t 101)]⟩, ⟨some (99, false), .un 103 .not (.t 102)⟩, ⟨none, .pick 104 (.t 99) (.c (.sc (.bool true))) (.t 103)⟩, ⟨none, .mv 105 (.t 104)⟩, ⟨some (105, false), .mv 106 (.t 16)⟩, ⟨some (105, false), .mv 107 (.t 11)⟩, ⟨some (105, false), .bin 108 .neq (.t 106) (.t 107)⟩, ⟨none, .pick 109 (.t 105) (.c (.sc (.bool true))) (.t 108)⟩]) (.cond (.t 109) ((.seq (.reg false [⟨none, .mv 8 (.c (.sc (.bool false)))⟩]) (.ret))) (.skip)))) ((.seq (.reg false [⟨none, .mv 18 (.c (.sc (.int .i64 1)))⟩]) ((.seq (.reg false [⟨none, .ld 110 true 3 (.t 15)⟩, ⟨none, .mv 111 (.t 18)⟩, ⟨none, .mcl 112 48 (.t 110) (.t 111)⟩, ⟨none, .mv 18 (.t 112)⟩]) ((.seq (.reg false [⟨none, .mv 19 (.c (.sc (.int .i64 1)))⟩]) ((.seq (.reg false [⟨none, .ld 113 true 3 (.t 15)⟩, ⟨none, .mv 114 (.t 19)⟩, ⟨none, .call (some 115) 50 [(.t 113), (.t 114)]⟩, ⟨none, .mv 19 (.t 115)⟩]) ((.seq ((.seq (.reg false [⟨none, .mv 116 (.t 19)⟩, ⟨none, .bin 117 .lss (.t 116) (.c (.sc (.int .i64 0)))⟩]) (.cond (.t 117) ((.seq (.reg false [⟨none, .mv 8 (.c (.sc (.bool false)))⟩]) (.ret))) (.skip)))) ((.seq ((.seq (.reg false [⟨none, .mv 118 (.t 19)⟩, ⟨none, .mv 119 (.t 18)⟩, ⟨none, .bin 120 .neq (.t 118) (.t 119)⟩]) (.cond (.t 120) ((.seq (.reg false [⟨none, .mv 8 (.c (.sc (.bool false)))⟩]) (.ret))) (.skip)))) ((.seq (.reg true [⟨none, .ld 122 true 2 (.t 4)⟩, ⟨none, .call (some 123) 26 [(.t 122)]⟩, ⟨none, .ld 124 true 3 (.t 5)⟩, ⟨none, .call (some 125) 43 [(.t 124)]⟩, ⟨none, .mv 126 (.t 2)⟩, ⟨none, .call (some 127) 44 [(.t 126)]⟩, ⟨none, .mv 128 (.t 3)⟩, ⟨none, .call (some 129) 44 [(.t 128)]⟩, ⟨none, .call (some 130) 45 [(.t 123), (.t 125), (.t 127), (.t 129)]⟩, ⟨none, .mv 121 (.t 130)⟩, ⟨none, .ext 131 (.t 121) 0⟩, ⟨none, .ext 132 (.t 121) 1⟩, ⟨none, .zer 20 3 (.ag [(.sc (.int .i64 0)), (.sc (.int .i64 0)), (.ls (some true) 3 [])])⟩, ⟨none, .st 3 (.t 20) (.t 131)⟩, ⟨none, .mv 21 (.t 132)⟩]) ((.seq ((.seq (.reg false [⟨none, .ld 133 true 3 (.t 20)⟩, ⟨none, .ld 134 true 3 (.t 10)⟩, ⟨none, .call (some 135) 46 [(.t 133), (.t 134)]⟩, ⟨none, .un 136 .not (.t 135)⟩, ⟨none, .mv 137 (.t 136)⟩, ⟨some (137, false), .mv 138 (.t 21)⟩, ⟨some (137, false), .mv 139 (.t 11)⟩, ⟨some (137, false), .bin 140 .neq (.t 138) (.t 139)⟩, ⟨none, .pick 141 (.t 137) (.c (.sc (.bool true))) (.t 140)⟩]) (.cond (.t 141) ((.seq (.reg false [⟨none, .mv 8 (.c (.sc (.bool false)))⟩]) (.ret))) (.skip)))) ((.seq (.reg false [⟨none, .mv 19 (.c (.sc (.int .i64 1)))⟩]) ((.seq (.reg false [⟨none, .ld 142 true 3 (.t 15)⟩, ⟨none, .mv 143 (.t 19)⟩, ⟨none, .call (some 144) 50 [(.t 142), (.t 143)]⟩, ⟨none, .mv 19 (.t 144)⟩]) ((.seq ((.seq (.reg false [⟨none, .mv 145 (.t 19)⟩, ⟨none, .bin 146 .lss (.t 145) (.c (.sc (.int .i64 0)))⟩]) (.cond (.t 146) ((.seq (.reg false [⟨none, .mv 8 (.c (.sc (.bool false)))⟩]) (.ret))) (.skip)))) ((.seq ((.seq (.reg false [⟨none, .mv 147 (.t 19)⟩, ⟨none, .mv 148 (.t 18)⟩, ⟨none, .bin 149 .neq (.t 147) (.t 148)⟩]) (.cond (.t 149) ((.seq (.reg false [⟨none, .mv 8 (.c (.sc (.bool false)))⟩]) (.ret))) (.skip)))) ((.seq (.reg false [⟨none, .mv 8 (.c (.sc (.bool true)))⟩]) (.ret))))))))))))))))))))))))))))))))))))))))))))))))))))))))))))))))))))))
theorem res6 : resF Try.prog 6 = some (150, rc6, [.t 8]) := by kernel_rfl
noncomputable def famExpr : Fam Try.prog eE 40 43 46 := famE mixed res40 res41 res43 res44 res46 res47
theorem famExpr_t (x) : famExpr.t x = tE x := rfl
noncomputable def famExprS : Fam Try.prog (eS 3 eE) 41 44 47 := famC mixed famExpr encE ⟨rfl, rfl, rfl⟩ (by omega) res41 res44 res47
theorem famExprS_t (x) : famExprS.t x = (some false, x.2.map famExpr.t) := rfl
theorem fitE_tE (e : Ex) : fitE e → fitE (tE e) := by
  refine Ex.ind (p := fun e => fitE e → fitE (tE e)) (fun k n nn ks ih hf => ?_) e
  rw [fitE_mk] at hf
  rw [tE_mk, fitE_mk]
  refine ⟨by simpa using hf.1, fun x hx => ?_⟩
  obtain ⟨y, hy, rfl⟩ := List.mem_map.1 hx
  exact ih y hy (hf.2 y hy)
theorem cntE_size : ∀ e : Ex, cntE e = 2 * sizeE e :=
  Ex.ind fun k n nn ks ih => by
    rw [cntE_mk, sizeE_mk]
    have : ∀ {l : List Ex}, (∀ x ∈ l, cntE x = 2 * sizeE x) → cntL cntE l = 2 * sizeEs l := by
      intro l
      induction l with
      | nil => intro _; rfl
      | cons x l il => intro h; simp only [cntL, sizeEs, h x (by simp), il fun y hy => h y (by simp [hy])]; omega
    rw [this ih]; omega
theorem substR_cnt (g : Int × Int) (e : Ex) (ts qs : List Ex) : cntE0 (substR g e ts qs).1 ≤ 2000000000 := by
  have h0 : cntE0 noE ≤ 2000000000 := by simp [noE, cntE0_mk, cntL]
  unfold substR
  repeat' (split; exact h0)
  unfold insR
  split
  · next h2 =>
    simp only [okE, Bool.and_eq_true, decide_eq_true_eq] at h2
    have h3 := cntE_size (subE ts qs e)
    rw [cntE_eq] at h3
    have := h2.1
    show cntE0 (subE ts qs e) ≤ _
    omega
  · exact h0
theorem szL_cntE : ∀ (ks : List Ex) (m : Int), 0 ≤ m → m ≤ 1048576 → 0 ≤ szL szE ks m → (cntL cntE ks : Int) = 2 * (m - szL szE ks m) + 2 * ks.length
  | [], m, _, _, _ => by simp [cntL, szL]
  | x :: ks, m, m1, m2, m3 => by
    have hm : ¬ m < 0 := by omega
    simp only [szL, if_neg hm] at m3 ⊢
    have hin := szE_in x m m1 m2
    have h0 : 0 ≤ szE x m := by
      refine Classical.byContradiction fun hn => ?_
      rw [szL_neg (by omega)] at m3
      omega
    have e1 := szE_cnt x m m1 m2 h0
    have e2 := szL_cntE ks (szE x m) h0 (by omega) m3
    simp only [cntL, cntE_eq, List.length_cons]
    push_cast
    omega
theorem szS_cntE (s : SL Ex) (l : Int) (h1 : 0 ≤ l) (h2 : l ≤ 1048576) (h : 0 ≤ szS szE s l) : (cntL cntE s.2 : Int) ≤ 8388608 := by
  simp only [szS] at h
  have hc : 0 ≤ cut (l - s.2.length) := by
    refine Classical.byContradiction fun hn => ?_
    rw [szL_neg (by omega)] at h
    omega
  obtain ⟨c1, c2⟩ := cut_nonneg hc
  have := szL_cntE s.2 (cut (l - s.2.length)) hc (by omega) h
  omega
theorem law (g : Int × Int) (e : Ex) (t0 q0 : SL Ex) : AF Try.prog 6 [eG g, eE e, eS 3 eE t0, eS 3 eE q0] (.own (eB true)) := by
  obtain ⟨ek, en, enn, eks, rfl⟩ := Ex.ex e
  obtain ⟨n1, ts⟩ := t0
  obtain ⟨n2, qs⟩ := q0
  rw [eE_mk]
  refine af_of_res res6 mixed rfl fun hbd => ?_
  simp +contextual -implicitDefEqProofs only [rc6, eS, eG, eI, eB, go_sem, ↓reduceIte, Nat.reduceEqDiff, Nat.reduceAdd, Nat.reduceLeDiff, Nat.reduceBneDiff, Nat.reduceLT, Bool.false_eq_true, List.cons_append, List.nil_append]
  refine callQ_self (ds := [eE (Ex.mk ek en enn eks), eI 1048576]) ?_ (famExpr.afS (Ex.mk ek en enn eks) 1048576 (by omega) (by omega)) ?_
  · simp only [eE_mk, eI]; exact rfl
  simp +contextual -implicitDefEqProofs only [eI, go_sem, ↓reduceIte, Nat.reduceEqDiff]
  have sb0 := famExpr.s_in (Ex.mk ek en enn eks) 1048576 (by omega) (by omega)
  refine fun hs0 => ?_
  have hf0 := famExpr.s_fit (Ex.mk ek en enn eks) 1048576 (by omega) (by omega) (by omega)
  refine callQ_self (ds := [eS 3 eE (n1, ts), eI (famExpr.s (Ex.mk ek en enn eks) 1048576)]) ?_ (famExprS.afS (n1, ts) (famExpr.s (Ex.mk ek en enn eks) 1048576) (by omega) (by omega)) ?_
  · simp only [eS, eI]; exact rfl
  simp +contextual -implicitDefEqProofs only [eI, go_sem, ↓reduceIte, Nat.reduceEqDiff]
  have sb1 := famExprS.s_in (n1, ts) (famExpr.s (Ex.mk ek en enn eks) 1048576) (by omega) (by omega)
  refine fun hs1 => ?_
  have hf1 := famExprS.s_fit (n1, ts) (famExpr.s (Ex.mk ek en enn eks) 1048576) (by omega) (by omega) (by omega)
  refine callQ_self (ds := [eS 3 eE (n2, qs), eI (famExprS.s (n1, ts) (famExpr.s (Ex.mk ek en enn eks) 1048576))]) ?_ (famExprS.afS (n2, qs) (famExprS.s (n1, ts) (famExpr.s (Ex.mk ek en enn eks) 1048576)) (by omega) (by omega)) ?_
  · simp only [eS, eI]; exact rfl
  simp +contextual -implicitDefEqProofs only [eI, go_sem, ↓reduceIte, Nat.reduceEqDiff, Nat.reduceLeDiff, Bool.false_eq_true]
  have sb2 := famExprS.s_in (n2, qs) (famExprS.s (n1, ts) (famExpr.s (Ex.mk ek en enn eks) 1048576)) (by omega) (by omega)
  refine fun hs2 => ?_
  have hf2 := famExprS.s_fit (n2, qs) (famExprS.s (n1, ts) (famExpr.s (Ex.mk ek en enn eks) 1048576)) (by omega) (by omega) (by omega)
  refine callQ_self (ds := [eG g]) ?_ (af26 g) ?_
  · simp only [eG, eI]; exact rfl
  simp +contextual -implicitDefEqProofs only [eG, eI, go_sem, ↓reduceIte, Nat.reduceEqDiff, Nat.reduceLeDiff, Bool.false_eq_true]
  have hto := famExpr.afT (Ex.mk ek en enn eks) hf0
  have ht1 := famExprS.afT (n1, ts) hf1
  have ht2 := famExprS.afT (n2, qs) hf2
  simp only [famExprS_t] at ht1 ht2
  have hfT : fitE (famExpr.t (Ex.mk ek en enn eks)) := fitE_tE _ hf0
  have hfs : ∀ {l : List Ex}, (∀ t ∈ l, fitE t) → ∀ t ∈ l.map famExpr.t, fitE t := by
    intro l hl t h
    obtain ⟨y, hy, rfl⟩ := List.mem_map.1 h
    exact fitE_tE y (hl y hy)
  have hl1 : (ts.map famExpr.t).length ≤ 1048576 := by rw [List.length_map]; exact hf1.1
  have hl2 : (qs.map famExpr.t).length ≤ 1048576 := by rw [List.length_map]; exact hf2.1
  have hsp := af42 g (famExpr.t (Ex.mk ek en enn eks)) (ts.map famExpr.t) (qs.map famExpr.t) (some false) (some false) hfT (hfs hf1.2) (hfs hf2.2) hl1 hl2
  have him := af45 g (famExpr.t (Ex.mk ek en enn eks)) (ts.map famExpr.t) (qs.map famExpr.t) (some false) (some false) hfT (hfs hf1.2) (hfs hf2.2) hl1 hl2
  have hqE := famExpr.afQ (famExpr.t (Ex.mk ek en enn eks)) (famExpr.t (Ex.mk ek en enn eks))
  rw [famExpr.q_refl] at hqE
  have hq1 := famExprS.afQ (some false, (ts.map famExpr.t)) (some false, (ts.map famExpr.t))
  rw [famExprS.q_refl] at hq1
  have hq2 := famExprS.afQ (some false, (qs.map famExpr.t)) (some false, (qs.map famExpr.t))
  rw [famExprS.q_refl] at hq2
  have hmt : ∀ l : List Ex, cntL cntE (l.map famExpr.t) = cntL cntE l := fun l => cntL_congr fun x _ => cntE_tE x
  have hc0 : (cntE0 (famExpr.t (Ex.mk ek en enn eks)) : Int) ≤ 8388608 := by
    have h := szE_cnt (Ex.mk ek en enn eks) 1048576 (by omega) (by omega) (Int.not_lt.1 hs0)
    have e : cntE0 (famExpr.t (Ex.mk ek en enn eks)) = cntE0 (Ex.mk ek en enn eks) := cntE0_tE _
    have h' : 0 ≤ szE (Ex.mk ek en enn eks) 1048576 := Int.not_lt.1 hs0
    rw [e]; omega
  have hc1 : (cntL cntE (ts.map famExpr.t) : Int) ≤ 8388608 := by
    rw [hmt]; exact szS_cntE (n1, ts) (famExpr.s (Ex.mk ek en enn eks) 1048576) (by omega) (by omega) (Int.not_lt.1 hs1)
  have hc2 : (cntL cntE (qs.map famExpr.t) : Int) ≤ 8388608 := by
    rw [hmt]; exact szS_cntE (n2, qs) (famExprS.s (n1, ts) (famExpr.s (Ex.mk ek en enn eks) 1048576)) (by omega) (by omega) (Int.not_lt.1 hs2)
  have hM0 := af48 (famExpr.t (Ex.mk ek en enn eks)) 1 (by omega) (by unfold maxK; omega)
  have hM1 := af49 (some false) (ts.map famExpr.t) (1 + cntE0 (famExpr.t (Ex.mk ek en enn eks))) (by omega) (by unfold maxK; omega)
  have hM2 := af49 (some false) (qs.map famExpr.t) (1 + cntE0 (famExpr.t (Ex.mk ek en enn eks)) + cntL cntE (ts.map famExpr.t)) (by omega) (by unfold maxK; omega)
  have hcR := substR_cnt g (famExpr.t (Ex.mk ek en enn eks)) (ts.map famExpr.t) (qs.map famExpr.t)
  generalize substR g (famExpr.t (Ex.mk ek en enn eks)) (ts.map famExpr.t) (qs.map famExpr.t) = r at hsp him hcR
  generalize mkE0 (famExpr.t (Ex.mk ek en enn eks)) 1 = mE at hM0
  generalize cntE0 (famExpr.t (Ex.mk ek en enn eks)) = c0 at hM0 hM1 hM2 hc0
  generalize mkL mkE cntE (ts.map famExpr.t) (1 + (c0 : Int)) = m1 at hM1
  generalize cntL cntE (ts.map famExpr.t) = c1 at hM1 hM2 hc1
  generalize mkL mkE cntE (qs.map famExpr.t) (1 + (c0 : Int) + (c1 : Int)) = m2 at hM2
  generalize cntL cntE (qs.map famExpr.t) = c2 at hM2 hc2
  generalize (famExpr.t (Ex.mk ek en enn eks)) = wE at hto hsp him hqE hM0
  generalize (ts.map famExpr.t) = wt at ht1 hsp him hq1 hM1
  generalize (qs.map famExpr.t) = wq at ht2 hsp him hq2 hM2
  obtain ⟨wk, wn, wnn, wks, rfl⟩ := Ex.ex wE
  obtain ⟨mk_, mn, mnn, mks, rfl⟩ := Ex.ex mE
  obtain ⟨r, c⟩ := r
  obtain ⟨rk, rn, rnn, rks, rfl⟩ := Ex.ex r
  simp only at hsp him hcR
  have hqR := famExpr.afQ (Ex.mk rk rn rnn rks) (Ex.mk rk rn rnn rks)
  rw [famExpr.q_refl] at hqR
  have hM3 := af48 (Ex.mk rk rn rnn rks) 1 (by omega) (by unfold maxK; omega)
  have hH1 := af50 (Ex.mk rk rn rnn rks) 1 (by omega) (by unfold maxK; omega)
  generalize cntE0 (Ex.mk rk rn rnn rks) = cR at hM3 hH1 hcR
  generalize mkE0 (Ex.mk rk rn rnn rks) 1 = nE at hM3 hH1
  obtain ⟨nk, nn_, nnn, nks, rfl⟩ := Ex.ex nE
  have hk0 : ¬ (1 + (c0 : Int) + (c1 : Int) + (c2 : Int) < 0) := by omega
  have hk1 : ¬ (1 + (cR : Int) < 0) := by omega
  simp only [eE_mk, eS] at hto ht1 ht2 hsp him hqE hq1 hq2 hqR hM0 hM1 hM2 hM3 hH1
  refine callQ_self ?_ (hto) ?_
  · exact rfl
  simp +contextual -implicitDefEqProofs only [go_sem, ↓reduceIte, Nat.reduceEqDiff, Nat.reduceBneDiff, Bool.false_eq_true, List.cons_append, List.nil_append]
  refine callQ_self ?_ (ht1) ?_
  · exact rfl
  simp +contextual -implicitDefEqProofs only [go_sem, ↓reduceIte, Nat.reduceEqDiff, Nat.reduceBneDiff, Bool.false_eq_true, List.cons_append, List.nil_append]
  refine callQ_self ?_ (ht2) ?_
  · exact rfl
  simp +contextual -implicitDefEqProofs only [go_sem, ↓reduceIte, Nat.reduceEqDiff, Nat.reduceBneDiff, Bool.false_eq_true, List.cons_append, List.nil_append]
  refine callQ_self ?_ (hsp) ?_
  · exact rfl
  simp +contextual -implicitDefEqProofs only [eI, go_sem, ↓reduceIte, Nat.reduceEqDiff, Nat.reduceAdd, Nat.reduceLeDiff, Nat.reduceBEq, Nat.reduceBneDiff, Nat.reduceLT, Bool.false_eq_true, List.cons_append, List.nil_append]
  refine callQ_self ?_ (hto) ?_
  · exact rfl
  simp +contextual -implicitDefEqProofs only [go_sem, ↓reduceIte, Nat.reduceEqDiff, Nat.reduceAdd, Nat.reduceLeDiff, Nat.reduceBEq, Nat.reduceBneDiff, Nat.reduceLT, Bool.false_eq_true, List.cons_append, List.nil_append]
  refine callQ_self ?_ (ht1) ?_
  · exact rfl
  simp +contextual -implicitDefEqProofs only [go_sem, ↓reduceIte, Nat.reduceEqDiff, Nat.reduceBneDiff, Bool.false_eq_true, List.cons_append, List.nil_append]
  refine callQ_self ?_ (ht2) ?_
  · exact rfl
  simp +contextual -implicitDefEqProofs only [go_sem, ↓reduceIte, Nat.reduceEqDiff, Nat.reduceLeDiff, Nat.reduceBneDiff, Bool.false_eq_true, List.cons_append, List.nil_append]
  refine callQ_self (ds := [eG g]) ?_ (af26 g) ?_
  · simp only [eG, eI]; exact rfl
  simp +contextual -implicitDefEqProofs only [eG, eI, go_sem, ↓reduceIte, Nat.reduceEqDiff, Nat.reduceLeDiff, Bool.false_eq_true]
  refine callQ_self ?_ (him) ?_
  · exact rfl
  simp +contextual -implicitDefEqProofs only [eI, go_sem, ↓reduceIte, Nat.reduceEqDiff, Nat.reduceAdd, Nat.reduceLeDiff, Nat.reduceBEq, Nat.reduceBneDiff, Nat.reduceLT, Bool.false_eq_true, List.cons_append, List.nil_append]
  refine callQ_self ?_ (hqR) ?_
  · exact rfl
  simp +contextual -implicitDefEqProofs only [Bool.not_true, eB, bne_self_eq_false, go_sem, ↓reduceIte, Nat.reduceEqDiff, Nat.reduceLeDiff, Bool.false_eq_true]
  refine callQ_self ?_ (hto) ?_
  · exact rfl
  simp +contextual -implicitDefEqProofs only [go_sem, ↓reduceIte, Nat.reduceEqDiff, Nat.reduceBneDiff, Bool.false_eq_true, List.cons_append, List.nil_append]
  refine callQ_self ?_ (hqE) ?_
  · exact rfl
  simp +contextual -implicitDefEqProofs only [Bool.not_true, eB, go_sem, ↓reduceIte, Nat.reduceEqDiff]
  refine callQ_self ?_ (ht1) ?_
  · exact rfl
  simp +contextual -implicitDefEqProofs only [go_sem, ↓reduceIte, Nat.reduceEqDiff, Nat.reduceBneDiff, Bool.false_eq_true, List.cons_append, List.nil_append]
  refine callQ_self ?_ (hq1) ?_
  · exact rfl
  simp +contextual -implicitDefEqProofs only [Bool.not_true, eB, go_sem, ↓reduceIte, Nat.reduceEqDiff]
  refine callQ_self ?_ (ht2) ?_
  · exact rfl
  simp +contextual -implicitDefEqProofs only [go_sem, ↓reduceIte, Nat.reduceEqDiff, Nat.reduceBneDiff, Bool.false_eq_true, List.cons_append, List.nil_append]
  refine callQ_self ?_ (hq2) ?_
  · exact rfl
  simp +contextual -implicitDefEqProofs only [Bool.not_true, eB, go_sem, ↓reduceIte, Nat.reduceEqDiff, Nat.reduceLeDiff, Bool.false_eq_true]
  refine ⟨.ag [.sc (.int .i64 mk_), .sc (.int .i64 mn), .ls mnn 3 (mks.map eE)], 1 + c0, hM0, ⟨rfl, fun _ => rfl, rfl⟩, ?_⟩
  simp +contextual -implicitDefEqProofs only [D.put, go_sem, ↓reduceIte, Nat.reduceEqDiff, Nat.reduceBEq, Bool.false_eq_true]
  refine ⟨.ls (some false) 3 (m1.map eE), 1 + c0 + c1, hM1, rfl, ?_⟩
  simp +contextual -implicitDefEqProofs only [go_sem, ↓reduceIte, Nat.reduceEqDiff, Nat.reduceBEq, Bool.false_eq_true]
  refine ⟨.ls (some false) 3 (m2.map eE), 1 + c0 + c1 + c2, hM2, rfl, ?_⟩
  simp +contextual -implicitDefEqProofs only [hk0, D.isAg, D.at, D.sub, go_sem, ↓reduceIte, Nat.reduceEqDiff, Nat.reduceLeDiff, Nat.reduceBEq, Bool.false_eq_true]
  refine callQ_self ?_ (hqR) ?_
  · exact rfl
  simp +contextual -implicitDefEqProofs only [Bool.not_true, eB, bne_self_eq_false, go_sem, ↓reduceIte, Nat.reduceEqDiff, Nat.reduceLeDiff, Bool.false_eq_true]
  refine ⟨.ag [.sc (.int .i64 nk), .sc (.int .i64 nn_), .ls nnn 3 (nks.map eE)], 1 + cR, hM3, ⟨rfl, fun _ => rfl, rfl⟩, ?_⟩
  simp +contextual -implicitDefEqProofs only [D.put, D.isAg, D.at, D.sub, go_sem, ↓reduceIte, Nat.reduceEqDiff, Nat.reduceLeDiff, Nat.reduceBEq, Bool.false_eq_true]
  refine callQ_self ?_ (hH1) ?_
  · exact rfl
  simp +contextual -implicitDefEqProofs only [hk1, eI, bne_self_eq_false, go_sem, ↓reduceIte, Nat.reduceEqDiff, Nat.reduceLeDiff, Bool.false_eq_true]
  refine callQ_self (ds := [eG g]) ?_ (af26 g) ?_
  · simp only [eG, eI]; exact rfl
  simp +contextual -implicitDefEqProofs only [eG, eI, go_sem, ↓reduceIte, Nat.reduceEqDiff, Nat.reduceLeDiff, Bool.false_eq_true]
  refine callQ_self ?_ (hto) ?_
  · exact rfl
  simp +contextual -implicitDefEqProofs only [go_sem, ↓reduceIte, Nat.reduceEqDiff, Nat.reduceBneDiff, Bool.false_eq_true, List.cons_append, List.nil_append]
  refine callQ_self ?_ (ht1) ?_
  · exact rfl
  simp +contextual -implicitDefEqProofs only [go_sem, ↓reduceIte, Nat.reduceEqDiff, Nat.reduceBneDiff, Bool.false_eq_true, List.cons_append, List.nil_append]
  refine callQ_self ?_ (ht2) ?_
  · exact rfl
  simp +contextual -implicitDefEqProofs only [go_sem, ↓reduceIte, Nat.reduceEqDiff, Nat.reduceBneDiff, Bool.false_eq_true, List.cons_append, List.nil_append]
  refine callQ_self ?_ (him) ?_
  · exact rfl
  simp +contextual -implicitDefEqProofs only [eI, go_sem, ↓reduceIte, Nat.reduceEqDiff, Nat.reduceAdd, Nat.reduceLeDiff, Nat.reduceBEq, Nat.reduceBneDiff, Nat.reduceLT, Bool.false_eq_true, List.cons_append, List.nil_append]
  refine callQ_self ?_ (hqR) ?_
  · exact rfl
  simp +contextual -implicitDefEqProofs only [Bool.not_true, eB, bne_self_eq_false, go_sem, ↓reduceIte, Nat.reduceEqDiff, Nat.reduceLeDiff, Bool.false_eq_true]
  refine callQ_self ?_ (hH1) ?_
  · exact rfl
  simp +contextual -implicitDefEqProofs only [hk1, eI, bne_self_eq_false, go_sem, ↓reduceIte, Nat.reduceEqDiff]
end Go.Ax
