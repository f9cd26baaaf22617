/- Contracts of functions of the seat, proved over the engine. No condition. -/
import Derived.Test.YthcgldjelbmjgaaX47
import Derived.Test.YthcgldjelbmjgaaAxI
import Derived.Test.YthcgldjelbmjgaaChecked
set_option linter.unusedSimpArgs false
set_option linter.unusedVariables false
set_option linter.unnecessarySimpa false
namespace Go.Ax
open Go.Proofs
set_option linter.unusedSimpArgs false
theorem mixed : Try.prog.follows .mixedOrders = true := by kernel_rfl
theorem res169 : resF Try.prog 169 = some (12, cSzP, [.t 4]) := by kernel_rfl
theorem res85 : resF Try.prog 85 = some (27, cSzC 169 1 false, [.t 4]) := by kernel_rfl
theorem res127 : resF Try.prog 127 = some (12, cSzP, [.t 4]) := by kernel_rfl
theorem res185 : resF Try.prog 185 = some (27, cSzC 127 1 false, [.t 4]) := by kernel_rfl
theorem res108 : resF Try.prog 108 = some (27, cSzC 185 1 false, [.t 4]) := by kernel_rfl

def rc31 : RC := (.seq (.reg false [⟨none, .box 2 5 (.t 0)⟩, ⟨none, .mv 4 (.c (.sc (.int .i64 0)))⟩]) ((.seq (.reg false [⟨none, .fa 5 3 (.t 2)⟩, ⟨none, .ld 6 false 1 (.t 5)⟩, ⟨none, .mv 7 (.t 1)⟩, ⟨none, .call (some 8) 85 [(.t 6), (.t 7)]⟩, ⟨none, .mv 1 (.t 8)⟩]) ((.seq ((.seq (.reg false [⟨none, .mv 9 (.t 1)⟩, ⟨none, .bin 10 .lss (.t 9) (.c (.sc (.int .i64 0)))⟩]) (.cond (.t 10) ((.seq (.reg false [⟨none, .mv 4 (.c (.sc (.int .i64 (-1))))⟩]) (.ret))) (.skip)))) ((.seq (.reg false [⟨none, .fa 11 4 (.t 2)⟩, ⟨none, .ld 12 false 1 (.t 11)⟩, ⟨none, .mv 13 (.t 1)⟩, ⟨none, .call (some 14) 108 [(.t 12), (.t 13)]⟩, ⟨none, .mv 1 (.t 14)⟩]) ((.seq ((.seq (.reg false [⟨none, .mv 15 (.t 1)⟩, ⟨none, .bin 16 .lss (.t 15) (.c (.sc (.int .i64 0)))⟩]) (.cond (.t 16) ((.seq (.reg false [⟨none, .mv 4 (.c (.sc (.int .i64 (-1))))⟩]) (.ret))) (.skip)))) ((.seq (.reg false [⟨none, .mv 17 (.t 1)⟩, ⟨none, .mv 4 (.t 17)⟩]) (.ret))))))))))))
theorem res31 : resF Try.prog 31 = some (18, rc31, [.t 4]) := by kernel_rfl
theorem res50 : resF Try.prog 50 = some (11, k_toSig, [.c 2 2 true]) := by kernel_rfl
theorem af50 : K_toSig Try.prog 50 := a_toSig mixed res50
theorem res172 : resF Try.prog 172 = some (22, cToS 1 (.sc (.bool false)), [.t 2]) := by kernel_rfl
theorem res90 : resF Try.prog 90 = some (23, cToC 172 1 24 false (.ls (some true) 1 []), [.t 2]) := by kernel_rfl
theorem res20 : resF Try.prog 20 = some (22, cToS 8 (.sc (.int .i64 0)), [.t 2]) := by kernel_rfl
theorem res194 : resF Try.prog 194 = some (23, cToC 20 1 24 false (.ls (some true) 1 []), [.t 2]) := by kernel_rfl
theorem res112 : resF Try.prog 112 = some (23, cToC 194 1 24 false (.ls (some true) 1 []), [.t 2]) := by kernel_rfl

def rc33 : RC := (.seq (.reg false [⟨none, .box 1 5 (.t 0)⟩, ⟨none, .zer 2 5 (.ag [(.sc (.int .i64 0)), (.sc (.int .i64 0)), (.sc (.int .i64 0)), (.ls (some true) 1 []), (.ls (some true) 1 [])])⟩]) ((.seq (.reg false [⟨none, .zer 3 5 (.ag [(.sc (.int .i64 0)), (.sc (.int .i64 0)), (.sc (.int .i64 0)), (.ls (some true) 1 []), (.ls (some true) 1 [])])⟩]) ((.seq (.reg false [⟨none, .fa 4 0 (.t 1)⟩, ⟨none, .ld 5 true 2 (.t 4)⟩, ⟨none, .call (some 6) 50 [(.t 5)]⟩, ⟨none, .fa 7 0 (.t 3)⟩, ⟨none, .st 2 (.t 7) (.t 6)⟩]) ((.seq (.reg false [⟨none, .fa 8 2 (.t 1)⟩, ⟨none, .ld 9 false 1 (.t 8)⟩, ⟨none, .fa 10 2 (.t 3)⟩, ⟨none, .st 1 (.t 10) (.t 9)⟩]) ((.seq (.reg false [⟨none, .fa 11 3 (.t 1)⟩, ⟨none, .ld 12 false 1 (.t 11)⟩, ⟨none, .call (some 13) 90 [(.t 12)]⟩, ⟨none, .fa 14 3 (.t 3)⟩, ⟨none, .st 1 (.t 14) (.t 13)⟩]) ((.seq (.reg false [⟨none, .fa 15 4 (.t 1)⟩, ⟨none, .ld 16 false 1 (.t 15)⟩, ⟨none, .call (some 17) 112 [(.t 16)]⟩, ⟨none, .fa 18 4 (.t 3)⟩, ⟨none, .st 1 (.t 18) (.t 17)⟩]) ((.seq (.reg false [⟨none, .ld 19 true 5 (.t 3)⟩, ⟨none, .st 5 (.t 2) (.t 19)⟩]) (.ret))))))))))))))
theorem res33 : resF Try.prog 33 = some (20, rc33, [.c 2 5 true]) := by kernel_rfl
theorem res159 : resF Try.prog 159 = some (15, k_l00In, [.t 6]) := by kernel_rfl
theorem af159 : K_l00In Try.prog 159 := a_l00In mixed res159
theorem res148 : resF Try.prog 148 = some (11, k_l01Sig 159, [.t 2]) := by kernel_rfl
theorem af148 : K_l01Sig Try.prog 148 := a_l01Sig mixed res148 af159
theorem res186 : resF Try.prog 186 = some (36, k_l05Tests 148 159, [.t 6]) := by kernel_rfl
theorem af186 : K_l05Tests Try.prog 186 := a_l05Tests mixed res186 af148 af159
theorem res109 : resF Try.prog 109 = some (113, k_l05CostsOk 186 159, [.t 2]) := by kernel_rfl
theorem af109 : K_l05CostsOk Try.prog 109 := a_l05CostsOk mixed res109 af186 af159
theorem res121 : resF Try.prog 121 = some (17, k_l05None, [.t 2]) := by kernel_rfl
theorem af121 : K_l05None Try.prog 121 := a_l05None mixed res121
theorem res55 : resF Try.prog 55 = some (84, k_spSupportOf 109 121, [.c 2 5 true, .t 3]) := by kernel_rfl
theorem af55 : K_spSupportOf Try.prog 55 := a_spSupportOf mixed res55 af109 af121
theorem res158 : resF Try.prog 158 = some (15, k_within, [.t 6]) := by kernel_rfl
theorem af158 : K_within Try.prog 158 := a_within mixed res158
theorem res207 : resF Try.prog 207 = some (11, k_validSig 158, [.t 2]) := by kernel_rfl
theorem af207 : K_validSig Try.prog 207 := a_validSig mixed res207 af158
theorem res226 : resF Try.prog 226 = some (24, k_isTableB, [.t 6]) := by kernel_rfl
theorem af226 : K_isTableB Try.prog 226 := a_isTableB mixed res226
theorem res227 : resF Try.prog 227 = some (24, k_isTableI, [.t 6]) := by kernel_rfl
theorem af227 : K_isTableI Try.prog 227 := a_isTableI mixed res227
theorem res157 : resF Try.prog 157 = some (46, k_isFrameI 207 158 226 227, [.t 8]) := by kernel_rfl
theorem af157 : K_isFrameI Try.prog 157 := a_isFrameI mixed res157 af207 af158 af226 af227
theorem res78 : resF Try.prog 78 = some (44, k_imValidCosts 157 158, [.t 2]) := by kernel_rfl
theorem af78 : K_imValidCosts Try.prog 78 := a_imValidCosts mixed res78 af157 af158
theorem res132 : resF Try.prog 132 = some (8, k_clone, [.t 2]) := by kernel_rfl
theorem af132 : K_clone Try.prog 132 := a_clone mixed res132
theorem res123 : resF Try.prog 123 = some (33, k_tableB, [.t 4]) := by kernel_rfl
theorem af123 : K_tableB Try.prog 123 := a_tableB mixed res123
theorem res133 : resF Try.prog 133 = some (14, k_support1, [.t 5]) := by kernel_rfl
theorem af133 : K_support1 Try.prog 133 := a_support1 mixed res133
theorem res56 : resF Try.prog 56 = some (51, k_imSupportOf 78 132 123 133, [.c 2 5 true, .t 3]) := by kernel_rfl
theorem af56 : K_imSupportOf Try.prog 56 := a_imSupportOf mixed res56 af78 af132 af123 af133
theorem res99 : resF Try.prog 99 = some (15, k_eqSig, [.t 4]) := by kernel_rfl
theorem af99 : K_eqSig Try.prog 99 := a_eqSig mixed res99
theorem res182 : resF Try.prog 182 = some (26, cEqB, [.t 4]) := by kernel_rfl
theorem res100 : resF Try.prog 100 = some (27, cEqC 182 1 false, [.t 4]) := by kernel_rfl
theorem res101 : resF Try.prog 101 = some (27, cEqC 100 1 false, [.t 4]) := by kernel_rfl

def rc23 : RC := (.seq (.reg false [⟨none, .box 2 5 (.t 0)⟩, ⟨none, .box 3 5 (.t 1)⟩, ⟨none, .mv 4 (.c (.sc (.bool false)))⟩]) ((.seq ((.seq (.reg false [⟨none, .fa 5 0 (.t 2)⟩, ⟨none, .ld 6 true 2 (.t 5)⟩, ⟨none, .fa 7 0 (.t 3)⟩, ⟨none, .ld 8 true 2 (.t 7)⟩, ⟨none, .call (some 9) 99 [(.t 6), (.t 8)]⟩, ⟨none, .un 10 .not (.t 9)⟩]) (.cond (.t 10) ((.seq (.reg false [⟨none, .mv 4 (.c (.sc (.bool false)))⟩]) (.ret))) (.skip)))) ((.seq ((.seq (.reg false [⟨none, .fa 11 2 (.t 2)⟩, ⟨none, .ld 12 false 1 (.t 11)⟩, ⟨none, .fa 13 2 (.t 3)⟩, ⟨none, .ld 14 false 1 (.t 13)⟩, ⟨none, .bin 15 .neq (.t 12) (.t 14)⟩]) (.cond (.t 15) ((.seq (.reg false [⟨none, .mv 4 (.c (.sc (.bool false)))⟩]) (.ret))) (.skip)))) ((.seq ((.seq (.reg false [⟨none, .fa 16 3 (.t 2)⟩, ⟨none, .ld 17 false 1 (.t 16)⟩, ⟨none, .fa 18 3 (.t 3)⟩, ⟨none, .ld 19 false 1 (.t 18)⟩, ⟨none, .call (some 20) 100 [(.t 17), (.t 19)]⟩, ⟨none, .un 21 .not (.t 20)⟩]) (.cond (.t 21) ((.seq (.reg false [⟨none, .mv 4 (.c (.sc (.bool false)))⟩]) (.ret))) (.skip)))) ((.seq ((.seq (.reg false [⟨none, .fa 22 4 (.t 2)⟩, ⟨none, .ld 23 false 1 (.t 22)⟩, ⟨none, .fa 24 4 (.t 3)⟩, ⟨none, .ld 25 false 1 (.t 24)⟩, ⟨none, .call (some 26) 101 [(.t 23), (.t 25)]⟩, ⟨none, .un 27 .not (.t 26)⟩]) (.cond (.t 27) ((.seq (.reg false [⟨none, .mv 4 (.c (.sc (.bool false)))⟩]) (.ret))) (.skip)))) ((.seq (.reg false [⟨none, .mv 4 (.c (.sc (.bool true)))⟩]) (.ret))))))))))))
theorem res23 : resF Try.prog 23 = some (28, rc23, [.t 4]) := by kernel_rfl
theorem res22 : resF Try.prog 22 = some (26, cEqS, [.t 4]) := by kernel_rfl
theorem res35 : resF Try.prog 35 = some (27, cEqC 22 1 false, [.t 4]) := by kernel_rfl
theorem res114 : resF Try.prog 114 = some (27, cEqC 35 1 false, [.t 4]) := by kernel_rfl

def rc36 : RC := (.seq (.reg false [⟨none, .box 2 5 (.t 0)⟩, ⟨none, .box 3 5 (.t 1)⟩, ⟨none, .mv 4 (.c (.sc (.bool false)))⟩]) ((.seq ((.seq (.reg false [⟨none, .fa 5 0 (.t 2)⟩, ⟨none, .ld 6 true 2 (.t 5)⟩, ⟨none, .fa 7 0 (.t 3)⟩, ⟨none, .ld 8 true 2 (.t 7)⟩, ⟨none, .call (some 9) 99 [(.t 6), (.t 8)]⟩, ⟨none, .un 10 .not (.t 9)⟩]) (.cond (.t 10) ((.seq (.reg false [⟨none, .mv 4 (.c (.sc (.bool false)))⟩]) (.ret))) (.skip)))) ((.seq ((.seq (.reg false [⟨none, .fa 11 2 (.t 2)⟩, ⟨none, .ld 12 false 1 (.t 11)⟩, ⟨none, .fa 13 2 (.t 3)⟩, ⟨none, .ld 14 false 1 (.t 13)⟩, ⟨none, .bin 15 .neq (.t 12) (.t 14)⟩]) (.cond (.t 15) ((.seq (.reg false [⟨none, .mv 4 (.c (.sc (.bool false)))⟩]) (.ret))) (.skip)))) ((.seq ((.seq (.reg false [⟨none, .fa 16 3 (.t 2)⟩, ⟨none, .ld 17 false 1 (.t 16)⟩, ⟨none, .fa 18 3 (.t 3)⟩, ⟨none, .ld 19 false 1 (.t 18)⟩, ⟨none, .call (some 20) 100 [(.t 17), (.t 19)]⟩, ⟨none, .un 21 .not (.t 20)⟩]) (.cond (.t 21) ((.seq (.reg false [⟨none, .mv 4 (.c (.sc (.bool false)))⟩]) (.ret))) (.skip)))) ((.seq ((.seq (.reg false [⟨none, .fa 22 4 (.t 2)⟩, ⟨none, .ld 23 false 1 (.t 22)⟩, ⟨none, .fa 24 4 (.t 3)⟩, ⟨none, .ld 25 false 1 (.t 24)⟩, ⟨none, .call (some 26) 114 [(.t 23), (.t 25)]⟩, ⟨none, .un 27 .not (.t 26)⟩]) (.cond (.t 27) ((.seq (.reg false [⟨none, .mv 4 (.c (.sc (.bool false)))⟩]) (.ret))) (.skip)))) ((.seq (.reg false [⟨none, .mv 4 (.c (.sc (.bool true)))⟩]) (.ret))))))))))))
theorem res36 : resF Try.prog 36 = some (28, rc36, [.t 4]) := by kernel_rfl
theorem res205 : resF Try.prog 205 = some (23, cHdB, [.t 4]) := by kernel_rfl
theorem res125 : resF Try.prog 125 = some (21, cHdC 205, [.t 4]) := by kernel_rfl
theorem res126 : resF Try.prog 126 = some (21, cHdC 125, [.t 4]) := by kernel_rfl

def rc47 : RC := (.seq (.reg false [⟨none, .box 2 5 (.t 0)⟩, ⟨none, .mv 4 (.c (.sc (.int .i64 0)))⟩]) ((.seq (.reg false [⟨none, .fa 5 3 (.t 2)⟩, ⟨none, .ld 6 false 1 (.t 5)⟩, ⟨none, .mv 7 (.t 1)⟩, ⟨none, .call (some 8) 125 [(.t 6), (.t 7)]⟩, ⟨none, .mv 1 (.t 8)⟩]) ((.seq ((.seq (.reg false [⟨none, .mv 9 (.t 1)⟩, ⟨none, .bin 10 .lss (.t 9) (.c (.sc (.int .i64 0)))⟩]) (.cond (.t 10) ((.seq (.reg false [⟨none, .mv 4 (.c (.sc (.int .i64 (-1))))⟩]) (.ret))) (.skip)))) ((.seq (.reg false [⟨none, .fa 11 4 (.t 2)⟩, ⟨none, .ld 12 false 1 (.t 11)⟩, ⟨none, .mv 13 (.t 1)⟩, ⟨none, .call (some 14) 126 [(.t 12), (.t 13)]⟩, ⟨none, .mv 1 (.t 14)⟩]) ((.seq ((.seq (.reg false [⟨none, .mv 15 (.t 1)⟩, ⟨none, .bin 16 .lss (.t 15) (.c (.sc (.int .i64 0)))⟩]) (.cond (.t 16) ((.seq (.reg false [⟨none, .mv 4 (.c (.sc (.int .i64 (-1))))⟩]) (.ret))) (.skip)))) ((.seq (.reg false [⟨none, .mv 17 (.t 1)⟩, ⟨none, .mv 4 (.t 17)⟩]) (.ret))))))))))))
theorem res47 : resF Try.prog 47 = some (18, rc47, [.t 4]) := by kernel_rfl
theorem res183 : resF Try.prog 183 = some (21, cMkB, [.t 4]) := by kernel_rfl
theorem res103 : resF Try.prog 103 = some (19, cMkC 183, [.t 4]) := by kernel_rfl
theorem res27 : resF Try.prog 27 = some (19, cMkI, [.t 4]) := by kernel_rfl
theorem res38 : resF Try.prog 38 = some (19, cMkC 27, [.t 4]) := by kernel_rfl
theorem res115 : resF Try.prog 115 = some (19, cMkC 38, [.t 4]) := by kernel_rfl

def rc37 : RC := (.seq (.reg false [⟨none, .box 2 5 (.t 0)⟩, ⟨none, .mv 4 (.c (.sc (.int .i64 0)))⟩]) ((.seq (.reg false [⟨none, .fa 5 3 (.t 2)⟩, ⟨none, .ld 6 false 1 (.t 5)⟩, ⟨none, .mv 7 (.t 1)⟩, ⟨none, .mcl 8 103 (.t 6) (.t 7)⟩, ⟨none, .mv 1 (.t 8)⟩]) ((.seq (.reg false [⟨none, .fa 9 4 (.t 2)⟩, ⟨none, .ld 10 false 1 (.t 9)⟩, ⟨none, .mv 11 (.t 1)⟩, ⟨none, .mcl 12 115 (.t 10) (.t 11)⟩, ⟨none, .mv 1 (.t 12)⟩]) ((.seq (.reg false [⟨none, .mv 13 (.t 1)⟩, ⟨none, .mv 4 (.t 13)⟩]) (.ret))))))))
theorem res37 : resF Try.prog 37 = some (14, rc37, [.t 4]) := by kernel_rfl
theorem res104 : resF Try.prog 104 = some (19, cMkC 103, [.t 4]) := by kernel_rfl

def rc25 : RC := (.seq (.reg false [⟨none, .box 2 5 (.t 0)⟩, ⟨none, .mv 4 (.c (.sc (.int .i64 0)))⟩]) ((.seq (.reg false [⟨none, .fa 5 3 (.t 2)⟩, ⟨none, .ld 6 false 1 (.t 5)⟩, ⟨none, .mv 7 (.t 1)⟩, ⟨none, .mcl 8 103 (.t 6) (.t 7)⟩, ⟨none, .mv 1 (.t 8)⟩]) ((.seq (.reg false [⟨none, .fa 9 4 (.t 2)⟩, ⟨none, .ld 10 false 1 (.t 9)⟩, ⟨none, .mv 11 (.t 1)⟩, ⟨none, .mcl 12 104 (.t 10) (.t 11)⟩, ⟨none, .mv 1 (.t 12)⟩]) ((.seq (.reg false [⟨none, .mv 13 (.t 1)⟩, ⟨none, .mv 4 (.t 13)⟩]) (.ret))))))))
theorem res25 : resF Try.prog 25 = some (14, rc25, [.t 4]) := by kernel_rfl

def rc9 : RC := (.seq (.reg false [⟨none, .box 1 5 (.t 0)⟩, ⟨none, .mv 2 (.c (.sc (.bool false)))⟩]) ((.seq (.reg false [⟨none, .mv 3 (.c (.sc (.int .i64 1048576)))⟩]) ((.seq (.reg false [⟨none, .ld 14 true 5 (.t 1)⟩, ⟨none, .mv 15 (.t 3)⟩, ⟨none, .call (some 16) 31 [(.t 14), (.t 15)]⟩, ⟨none, .mv 3 (.t 16)⟩]) ((.seq ((.seq (.reg false [⟨none, .mv 17 (.t 3)⟩, ⟨none, .bin 18 .lss (.t 17) (.c (.sc (.int .i64 0)))⟩]) (.cond (.t 18) ((.seq (.reg false [⟨none, .mv 2 (.c (.sc (.bool true)))⟩]) (.ret))) (.skip)))) ((.seq (.reg false [⟨none, .ld 20 true 5 (.t 1)⟩, ⟨none, .call (some 21) 33 [(.t 20)]⟩, ⟨none, .call (some 22) 55 [(.t 21)]⟩, ⟨none, .mv 19 (.t 22)⟩, ⟨none, .ext 23 (.t 19) 0⟩, ⟨none, .ext 24 (.t 19) 1⟩, ⟨none, .zer 4 5 (.ag [(.sc (.int .i64 0)), (.sc (.int .i64 0)), (.sc (.int .i64 0)), (.ls (some true) 1 []), (.ls (some true) 1 [])])⟩, ⟨none, .st 5 (.t 4) (.t 23)⟩, ⟨none, .mv 5 (.t 24)⟩]) ((.seq (.reg false [⟨none, .ld 25 true 5 (.t 1)⟩, ⟨none, .call (some 26) 33 [(.t 25)]⟩, ⟨none, .zer 6 5 (.ag [(.sc (.int .i64 0)), (.sc (.int .i64 0)), (.sc (.int .i64 0)), (.ls (some true) 1 []), (.ls (some true) 1 [])])⟩, ⟨none, .st 5 (.t 6) (.t 26)⟩]) ((.seq (.reg false [⟨none, .ld 28 true 5 (.t 6)⟩, ⟨none, .call (some 29) 56 [(.t 28)]⟩, ⟨none, .mv 27 (.t 29)⟩, ⟨none, .ext 30 (.t 27) 0⟩, ⟨none, .ext 31 (.t 27) 1⟩, ⟨none, .zer 7 5 (.ag [(.sc (.int .i64 0)), (.sc (.int .i64 0)), (.sc (.int .i64 0)), (.ls (some true) 1 []), (.ls (some true) 1 [])])⟩, ⟨none, .st 5 (.t 7) (.t 30)⟩, ⟨none, .mv 8 (.t 31)⟩]) ((.seq ((.seq (.reg false [⟨none, .ld 32 true 5 (.t 7)⟩, ⟨none, .ld 33 true 5 (.t 4)⟩, ⟨none, .call (some 34) 23 [(.t 32), (.t 33)]⟩, ⟨none, .un 35 .not (.t 34)⟩, ⟨none, .mv 36 (.t 35)⟩, ⟨some (36, false), .mv 37 (.t 8)⟩, ⟨some (36, false), .mv 38 (.t 5)⟩, ⟨some (36, false), .bin 39 .neq (.t 37) (.t 38)⟩, ⟨none, .pick 40 (.t 36) (.c (.sc (.bool true))) (.t 39)⟩]) (.cond (.t 40) ((.seq (.reg false [⟨none, .mv 2 (.c (.sc (.bool false)))⟩]) (.ret))) (.skip)))) ((.seq ((.seq (.reg true [⟨none, .ld 41 true 5 (.t 6)⟩, ⟨none, .ld 42 true 5 (.t 1)⟩, ⟨none, .call (some 43) 33 [(.t 42)]⟩, ⟨none, .call (some 44) 36 [(.t 41), (.t 43)]⟩, ⟨none, .un 45 .not (.t 44)⟩]) (.cond (.t 45) ((.seq (.reg false [⟨none, .mv 2 (.c (.sc (.bool false)))⟩]) (.ret))) (.skip)))) ((.seq (.reg false [⟨none, .mv 9 (.c (.sc (.int .i64 1)))⟩]) ((.seq (.reg false [⟨none, .ld 46 true 5 (.t 6)⟩, ⟨none, .mv 47 (.t 9)⟩, ⟨none, .mcl 48 37 (.t 46) (.t 47)⟩, ⟨none, .mv 9 (.t 48)⟩]) ((.seq ((.seq (.reg false [⟨none, .mv 49 (.t 9)⟩, ⟨none, .bin 50 .lss (.t 49) (.c (.sc (.int .i64 0)))⟩, ⟨none, .mv 51 (.t 50)⟩, ⟨some (51, false), .ld 52 true 5 (.t 7)⟩, ⟨some (51, false), .ld 53 true 5 (.t 4)⟩, ⟨some (51, false), .call (some 54) 23 [(.t 52), (.t 53)]⟩, ⟨some (51, false), .un 55 .not (.t 54)⟩, ⟨none, .pick 56 (.t 51) (.c (.sc (.bool true))) (.t 55)⟩, ⟨none, .mv 57 (.t 56)⟩, ⟨some (57, false), .mv 58 (.t 8)⟩, ⟨some (57, false), .mv 59 (.t 5)⟩, ⟨some (57, false), .bin 60 .neq (.t 58) (.t 59)⟩, ⟨none, .pick 61 (.t 57) (.c (.sc (.bool true))) (.t 60)⟩]) (.cond (.t 61) ((.seq (.reg false [⟨none, .mv 2 (.c (.sc (.bool false)))⟩]) (.ret))) (.skip)))) ((.seq (.reg false [⟨none, .mv 10 (.c (.sc (.int .i64 1)))⟩]) ((.seq (.reg false [⟨none, .ld 62 true 5 (.t 7)⟩, ⟨none, .mv 63 (.t 10)⟩, ⟨none, .mcl 64 25 (.t 62) (.t 63)⟩, ⟨none, .mv 10 (.t 64)⟩]) ((.seq (.reg false [⟨none, .mv 11 (.c (.sc (.int .i64 1)))⟩]) ((.seq (.reg false [⟨none, .ld 65 true 5 (.t 7)⟩, ⟨none, .mv 66 (.t 11)⟩, ⟨none, .call (some 67) 47 [(.t 65), (.t 66)]⟩, ⟨none, .mv 11 (.t 67)⟩]) ((.seq ((.seq (.reg false [⟨none, .mv 68 (.t 11)⟩, ⟨none, .bin 69 .lss (.t 68) (.c (.sc (.int .i64 0)))⟩]) (.cond (.t 69) ((.seq (.reg false [⟨none, .mv 2 (.c (.sc (.bool false)))⟩]) (.ret))) (.skip)))) ((.seq ((.seq (.reg false [⟨none, .mv 70 (.t 11)⟩, ⟨none, .mv 71 (.t 10)⟩, ⟨none, .bin 72 .neq (.t 70) (.t 71)⟩]) (.cond (.t 72) ((.seq (.reg false [⟨none, .mv 2 (.c (.sc (.bool false)))⟩]) (.ret))) (.skip)))) ((.seq (.reg false [⟨none, .ld 74 true 5 (.t 1)⟩, ⟨none, .call (some 75) 33 [(.t 74)]⟩, ⟨none, .call (some 76) 56 [(.t 75)]⟩, ⟨none, .mv 73 (.t 76)⟩, ⟨none, .ext 77 (.t 73) 0⟩, ⟨none, .ext 78 (.t 73) 1⟩, ⟨none, .zer 12 5 (.ag [(.sc (.int .i64 0)), (.sc (.int .i64 0)), (.sc (.int .i64 0)), (.ls (some true) 1 []), (.ls (some true) 1 [])])⟩, ⟨none, .st 5 (.t 12) (.t 77)⟩, ⟨none, .mv 13 (.t 78)⟩]) ((.seq ((.seq (.reg false [⟨none, .ld 79 true 5 (.t 12)⟩, ⟨none, .ld 80 true 5 (.t 4)⟩, ⟨none, .call (some 81) 23 [(.t 79), (.t 80)]⟩, ⟨none, .un 82 .not (.t 81)⟩, ⟨none, .mv 83 (.t 82)⟩, ⟨some (83, false), .mv 84 (.t 13)⟩, ⟨some (83, false), .mv 85 (.t 5)⟩, ⟨some (83, false), .bin 86 .neq (.t 84) (.t 85)⟩, ⟨none, .pick 87 (.t 83) (.c (.sc (.bool true))) (.t 86)⟩]) (.cond (.t 87) ((.seq (.reg false [⟨none, .mv 2 (.c (.sc (.bool false)))⟩]) (.ret))) (.skip)))) ((.seq (.reg false [⟨none, .mv 11 (.c (.sc (.int .i64 1)))⟩]) ((.seq (.reg false [⟨none, .ld 88 true 5 (.t 7)⟩, ⟨none, .mv 89 (.t 11)⟩, ⟨none, .call (some 90) 47 [(.t 88), (.t 89)]⟩, ⟨none, .mv 11 (.t 90)⟩]) ((.seq ((.seq (.reg false [⟨none, .mv 91 (.t 11)⟩, ⟨none, .bin 92 .lss (.t 91) (.c (.sc (.int .i64 0)))⟩]) (.cond (.t 92) ((.seq (.reg false [⟨none, .mv 2 (.c (.sc (.bool false)))⟩]) (.ret))) (.skip)))) ((.seq ((.seq (.reg false [⟨none, .mv 93 (.t 11)⟩, ⟨none, .mv 94 (.t 10)⟩, ⟨none, .bin 95 .neq (.t 93) (.t 94)⟩]) (.cond (.t 95) ((.seq (.reg false [⟨none, .mv 2 (.c (.sc (.bool false)))⟩]) (.ret))) (.skip)))) ((.seq (.reg false [⟨none, .mv 2 (.c (.sc (.bool true)))⟩]) (.ret))))))))))))))))))))))))))))))))))))))))))))))))))
theorem res9 : resF Try.prog 9 = some (96, rc9, [.t 2]) := by kernel_rfl
theorem res86 : resF Try.prog 86 = some (27, cSzC 85 1 false, [.t 4]) := by kernel_rfl

def rc15 : RC := (.seq (.reg false [⟨none, .box 2 5 (.t 0)⟩, ⟨none, .mv 4 (.c (.sc (.int .i64 0)))⟩]) ((.seq (.reg false [⟨none, .fa 5 3 (.t 2)⟩, ⟨none, .ld 6 false 1 (.t 5)⟩, ⟨none, .mv 7 (.t 1)⟩, ⟨none, .call (some 8) 85 [(.t 6), (.t 7)]⟩, ⟨none, .mv 1 (.t 8)⟩]) ((.seq ((.seq (.reg false [⟨none, .mv 9 (.t 1)⟩, ⟨none, .bin 10 .lss (.t 9) (.c (.sc (.int .i64 0)))⟩]) (.cond (.t 10) ((.seq (.reg false [⟨none, .mv 4 (.c (.sc (.int .i64 (-1))))⟩]) (.ret))) (.skip)))) ((.seq (.reg false [⟨none, .fa 11 4 (.t 2)⟩, ⟨none, .ld 12 false 1 (.t 11)⟩, ⟨none, .mv 13 (.t 1)⟩, ⟨none, .call (some 14) 86 [(.t 12), (.t 13)]⟩, ⟨none, .mv 1 (.t 14)⟩]) ((.seq ((.seq (.reg false [⟨none, .mv 15 (.t 1)⟩, ⟨none, .bin 16 .lss (.t 15) (.c (.sc (.int .i64 0)))⟩]) (.cond (.t 16) ((.seq (.reg false [⟨none, .mv 4 (.c (.sc (.int .i64 (-1))))⟩]) (.ret))) (.skip)))) ((.seq (.reg false [⟨none, .mv 17 (.t 1)⟩, ⟨none, .mv 4 (.t 17)⟩]) (.ret))))))))))))
theorem res15 : resF Try.prog 15 = some (18, rc15, [.t 4]) := by kernel_rfl
theorem res91 : resF Try.prog 91 = some (23, cToC 90 1 24 false (.ls (some true) 1 []), [.t 2]) := by kernel_rfl

def rc18 : RC := (.seq (.reg false [⟨none, .box 1 5 (.t 0)⟩, ⟨none, .zer 2 5 (.ag [(.sc (.int .i64 0)), (.sc (.int .i64 0)), (.sc (.int .i64 0)), (.ls (some true) 1 []), (.ls (some true) 1 [])])⟩]) ((.seq (.reg false [⟨none, .zer 3 5 (.ag [(.sc (.int .i64 0)), (.sc (.int .i64 0)), (.sc (.int .i64 0)), (.ls (some true) 1 []), (.ls (some true) 1 [])])⟩]) ((.seq (.reg false [⟨none, .fa 4 0 (.t 1)⟩, ⟨none, .ld 5 true 2 (.t 4)⟩, ⟨none, .call (some 6) 50 [(.t 5)]⟩, ⟨none, .fa 7 0 (.t 3)⟩, ⟨none, .st 2 (.t 7) (.t 6)⟩]) ((.seq (.reg false [⟨none, .fa 8 2 (.t 1)⟩, ⟨none, .ld 9 false 1 (.t 8)⟩, ⟨none, .fa 10 2 (.t 3)⟩, ⟨none, .st 1 (.t 10) (.t 9)⟩]) ((.seq (.reg false [⟨none, .fa 11 3 (.t 1)⟩, ⟨none, .ld 12 false 1 (.t 11)⟩, ⟨none, .call (some 13) 90 [(.t 12)]⟩, ⟨none, .fa 14 3 (.t 3)⟩, ⟨none, .st 1 (.t 14) (.t 13)⟩]) ((.seq (.reg false [⟨none, .fa 15 4 (.t 1)⟩, ⟨none, .ld 16 false 1 (.t 15)⟩, ⟨none, .call (some 17) 91 [(.t 16)]⟩, ⟨none, .fa 18 4 (.t 3)⟩, ⟨none, .st 1 (.t 18) (.t 17)⟩]) ((.seq (.reg false [⟨none, .ld 19 true 5 (.t 3)⟩, ⟨none, .st 5 (.t 2) (.t 19)⟩]) (.ret))))))))))))))
theorem res18 : resF Try.prog 18 = some (20, rc18, [.c 2 5 true]) := by kernel_rfl
noncomputable def famBoolS : Fam Try.prog (eS 1 eB) 169 172 182 := famP mixed encB noB ⟨rfl, rfl, rfl⟩ (by omega) res169 res172 (eqL fun x y => x == y) (fun _ => eqL_refl fun _ _ => by simp) fun a b => af_eqB mixed res182 a b
theorem famBoolS_t (x) : famBoolS.t x = (some false, x.2) := rfl
noncomputable def famBoolSS : Fam Try.prog (eS 1 (eS 1 eB)) 85 90 100 := famC mixed famBoolS (encS eB 1) ⟨rfl, rfl, rfl⟩ (by omega) res85 res90 res100
theorem famBoolSS_t (x) : famBoolSS.t x = (some false, x.2.map famBoolS.t) := rfl
noncomputable def famInt64S : Fam Try.prog (eS 1 eI) 127 20 22 := famP mixed encI noI ⟨rfl, rfl, rfl⟩ (by omega) res127 res20 (eqL fun x y => x == y) (fun _ => eqL_refl fun _ _ => by simp) fun a b => af_eqS mixed res22 a b
theorem famInt64S_t (x) : famInt64S.t x = (some false, x.2) := rfl
noncomputable def famInt64SS : Fam Try.prog (eS 1 (eS 1 eI)) 185 194 35 := famC mixed famInt64S (encS eI 1) ⟨rfl, rfl, rfl⟩ (by omega) res185 res194 res35
theorem famInt64SS_t (x) : famInt64SS.t x = (some false, x.2.map famInt64S.t) := rfl
noncomputable def famInt64SSS : Fam Try.prog (eS 1 (eS 1 (eS 1 eI))) 108 112 114 := famC mixed famInt64SS (encS (eS 1 eI) 1) ⟨rfl, rfl, rfl⟩ (by omega) res108 res112 res114
theorem famInt64SSS_t (x) : famInt64SSS.t x = (some false, x.2.map famInt64SS.t) := rfl
noncomputable def szCosts (m : Co) : Int → Int := fun l => nx (famBoolSS.s m.2.2.1 l) (fun l => nx (famInt64SSS.s m.2.2.2 l) (fun l => l))
def fitCosts (m : Co) : Prop := famBoolSS.fit m.2.2.1 ∧ famInt64SSS.fit m.2.2.2
noncomputable def tCosts (m : Co) : Co := (m.1, m.2.1, famBoolSS.t m.2.2.1, famInt64SSS.t m.2.2.2)
noncomputable def qCosts (a b : Co) : Bool := (qG a.1 b.1 && ((a.2.1 == b.2.1) && (famBoolSS.q a.2.2.1 b.2.2.1 && famInt64SSS.q a.2.2.2 b.2.2.2)))
theorem szCosts_in (m : Co) (l : Int) (h1 : 0 ≤ l) (h2 : l ≤ 1048576) : -1 ≤ szCosts m l ∧ szCosts m l ≤ l := by
  refine in_tr (Int.le_refl l) (nx_in (famBoolSS.s_in m.2.2.1 l h1 (by omega)) h1 (by omega) fun y0 a0 b0 => ?_)
  refine in_tr b0 (nx_in (famInt64SSS.s_in m.2.2.2 y0 a0 (by omega)) a0 (by omega) fun y1 a1 b1 => ?_)
  exact ⟨by omega, b1⟩
theorem szCosts_fit (m : Co) (l : Int) (h2 : l ≤ 1048576) (h1 : 0 ≤ l) (h : 0 ≤ szCosts m l) : fitCosts m := by
  obtain ⟨p0, h⟩ := nx_fit h
  have e0 := famBoolSS.s_fit m.2.2.1 l (by omega) h1 p0
  have b0 := famBoolSS.s_in m.2.2.1 l h1 (by omega)
  obtain ⟨p1, h⟩ := nx_fit h
  have e1 := famInt64SSS.s_fit m.2.2.2 _ (by omega) p0 p1
  have b1 := famInt64SSS.s_in m.2.2.2 (famBoolSS.s m.2.2.1 l) p0 (by omega)
  exact ⟨e0, e1⟩
theorem af31 (m : Co) (l : Int) (h1 : 0 ≤ l) (h2 : l ≤ 1048576) : AF Try.prog 31 [eCo m, eI l] (.own (eI (szCosts m l))) := by
  refine af_of_res res31 mixed rfl fun _ => ?_
  simp +contextual -implicitDefEqProofs only [rc31, eCo, eG, eS, go_sem, eI, eB, ↓reduceIte, Nat.reduceEqDiff, Nat.reduceAdd, Nat.reduceLeDiff, Nat.reduceMul, Nat.reduceBEq, Nat.reduceBneDiff, Nat.reduceLT, Nat.reduceSub, Bool.false_eq_true, List.cons_append, List.nil_append]
  refine callQ_self ?_ (famBoolSS.afS m.2.2.1 l (by omega) (by omega)) ?_
  · exact rfl
  simp +contextual -implicitDefEqProofs only [eCo, eG, eS, go_sem, eI, eB, ↓reduceIte, Nat.reduceEqDiff, Nat.reduceAdd, Nat.reduceLeDiff, Nat.reduceMul, Nat.reduceBEq, Nat.reduceBneDiff, Nat.reduceLT, Nat.reduceSub, Bool.false_eq_true, List.cons_append, List.nil_append]
  have b0 := famBoolSS.s_in m.2.2.1 l (by omega) (by omega)
  refine ⟨fun h => D.Le.sc_eq (by simp only [szCosts]; rw [nx_neg h]), fun g0 => ?_⟩
  refine callQ_self ?_ (famInt64SSS.afS m.2.2.2 (famBoolSS.s m.2.2.1 l) (by omega) (by omega)) ?_
  · exact rfl
  simp +contextual -implicitDefEqProofs only [eCo, eG, eS, go_sem, eI, eB, ↓reduceIte, Nat.reduceEqDiff, Nat.reduceAdd, Nat.reduceLeDiff, Nat.reduceMul, Nat.reduceBEq, Nat.reduceBneDiff, Nat.reduceLT, Nat.reduceSub, Bool.false_eq_true, List.cons_append, List.nil_append]
  have b1 := famInt64SSS.s_in m.2.2.2 (famBoolSS.s m.2.2.1 l) (by omega) (by omega)
  refine ⟨fun h => D.Le.sc_eq (by simp only [szCosts]; rw [nx_pos g0, nx_neg h]), fun g1 => ?_⟩
  exact D.Le.sc_eq (by simp only [szCosts]; rw [nx_pos g0, nx_pos g1])
theorem af33 (m : Co) (h : fitCosts m) : AF Try.prog 33 [eCo m] (.own (eCo (tCosts m))) := by
  refine af_of_res res33 mixed rfl fun _ => ?_
  simp +contextual -implicitDefEqProofs only [rc33, eCo, eG, eS, tCosts, famBoolSS_t, famInt64SSS_t, go_sem, eI, eB, ↓reduceIte, Nat.reduceEqDiff, Nat.reduceAdd, Nat.reduceLeDiff, Nat.reduceMul, Nat.reduceBEq, Nat.reduceBneDiff, Nat.reduceLT, Nat.reduceSub, Bool.false_eq_true, List.cons_append, List.nil_append]
  refine callQ_self ?_ (af50 m.1) ?_
  · exact rfl
  simp +contextual -implicitDefEqProofs only [eCo, eG, eS, tCosts, famBoolSS_t, famInt64SSS_t, go_sem, eI, eB, ↓reduceIte, Nat.reduceEqDiff, Nat.reduceAdd, Nat.reduceLeDiff, Nat.reduceMul, Nat.reduceBEq, Nat.reduceBneDiff, Nat.reduceLT, Nat.reduceSub, Bool.false_eq_true, List.cons_append, List.nil_append]
  refine callQ_self ?_ (famBoolSS.afT m.2.2.1 h.1) ?_
  · exact rfl
  simp +contextual -implicitDefEqProofs only [eCo, eG, eS, tCosts, famBoolSS_t, famInt64SSS_t, go_sem, eI, eB, ↓reduceIte, Nat.reduceEqDiff, Nat.reduceAdd, Nat.reduceLeDiff, Nat.reduceMul, Nat.reduceBEq, Nat.reduceBneDiff, Nat.reduceLT, Nat.reduceSub, Bool.false_eq_true, List.cons_append, List.nil_append]
  refine callQ_self ?_ (famInt64SSS.afT m.2.2.2 h.2) ?_
  · exact rfl
  simp +contextual -implicitDefEqProofs only [eCo, eG, eS, tCosts, famBoolSS_t, famInt64SSS_t, go_sem, eI, eB, ↓reduceIte, Nat.reduceEqDiff, Nat.reduceAdd, Nat.reduceLeDiff, Nat.reduceMul, Nat.reduceBEq, Nat.reduceBneDiff, Nat.reduceLT, Nat.reduceSub, Bool.false_eq_true, List.cons_append, List.nil_append]
theorem af36 (a b : Co) : AF Try.prog 36 [eCo a, eCo b] (.own (eB (qCosts a b))) := by
  refine af_of_res res36 mixed rfl fun _ => ?_
  simp +contextual -implicitDefEqProofs only [rc36, qCosts, bne, Bool.not_true, Bool.not_false, Bool.true_and, Bool.false_and, Bool.and_true, Bool.and_false, eCo, eG, eS, go_sem, eI, eB, ↓reduceIte, Nat.reduceEqDiff, Nat.reduceAdd, Nat.reduceLeDiff, Nat.reduceMul, Nat.reduceBEq, Nat.reduceBneDiff, Nat.reduceLT, Nat.reduceSub, Bool.false_eq_true, List.cons_append, List.nil_append]
  refine callQ_self ?_ (af99 a.1 b.1) ?_
  · exact rfl
  cases e0 : qG a.1 b.1
  · simp +contextual -implicitDefEqProofs only [qCosts, bne, Bool.not_true, Bool.not_false, Bool.true_and, Bool.false_and, Bool.and_true, Bool.and_false, eCo, eG, eS, e0, go_sem, eI, eB, ↓reduceIte, Nat.reduceEqDiff, Nat.reduceAdd, Nat.reduceLeDiff, Nat.reduceMul, Nat.reduceBEq, Nat.reduceBneDiff, Nat.reduceLT, Nat.reduceSub, Bool.false_eq_true, List.cons_append, List.nil_append]
  cases e1 : (a.2.1 == b.2.1)
  · simp +contextual -implicitDefEqProofs only [qCosts, bne, Bool.not_true, Bool.not_false, Bool.true_and, Bool.false_and, Bool.and_true, Bool.and_false, eCo, eG, eS, e0, e1, go_sem, eI, eB, ↓reduceIte, Nat.reduceEqDiff, Nat.reduceAdd, Nat.reduceLeDiff, Nat.reduceMul, Nat.reduceBEq, Nat.reduceBneDiff, Nat.reduceLT, Nat.reduceSub, Bool.false_eq_true, List.cons_append, List.nil_append]
  simp +contextual -implicitDefEqProofs only [qCosts, bne, Bool.not_true, Bool.not_false, Bool.true_and, Bool.false_and, Bool.and_true, Bool.and_false, eCo, eG, eS, e0, e1, go_sem, eI, eB, ↓reduceIte, Nat.reduceEqDiff, Nat.reduceAdd, Nat.reduceLeDiff, Nat.reduceMul, Nat.reduceBEq, Nat.reduceBneDiff, Nat.reduceLT, Nat.reduceSub, Bool.false_eq_true, List.cons_append, List.nil_append]
  refine callQ_self ?_ (famBoolSS.afQ a.2.2.1 b.2.2.1) ?_
  · exact rfl
  cases e2 : famBoolSS.q a.2.2.1 b.2.2.1
  · simp +contextual -implicitDefEqProofs only [qCosts, bne, Bool.not_true, Bool.not_false, Bool.true_and, Bool.false_and, Bool.and_true, Bool.and_false, eCo, eG, eS, e0, e1, e2, go_sem, eI, eB, ↓reduceIte, Nat.reduceEqDiff, Nat.reduceAdd, Nat.reduceLeDiff, Nat.reduceMul, Nat.reduceBEq, Nat.reduceBneDiff, Nat.reduceLT, Nat.reduceSub, Bool.false_eq_true, List.cons_append, List.nil_append]
  simp +contextual -implicitDefEqProofs only [qCosts, bne, Bool.not_true, Bool.not_false, Bool.true_and, Bool.false_and, Bool.and_true, Bool.and_false, eCo, eG, eS, e0, e1, e2, go_sem, eI, eB, ↓reduceIte, Nat.reduceEqDiff, Nat.reduceAdd, Nat.reduceLeDiff, Nat.reduceMul, Nat.reduceBEq, Nat.reduceBneDiff, Nat.reduceLT, Nat.reduceSub, Bool.false_eq_true, List.cons_append, List.nil_append]
  refine callQ_self ?_ (famInt64SSS.afQ a.2.2.2 b.2.2.2) ?_
  · exact rfl
  cases e3 : famInt64SSS.q a.2.2.2 b.2.2.2
  · simp +contextual -implicitDefEqProofs only [qCosts, bne, Bool.not_true, Bool.not_false, Bool.true_and, Bool.false_and, Bool.and_true, Bool.and_false, eCo, eG, eS, e0, e1, e2, e3, go_sem, eI, eB, ↓reduceIte, Nat.reduceEqDiff, Nat.reduceAdd, Nat.reduceLeDiff, Nat.reduceMul, Nat.reduceBEq, Nat.reduceBneDiff, Nat.reduceLT, Nat.reduceSub, Bool.false_eq_true, List.cons_append, List.nil_append]
  · simp +contextual -implicitDefEqProofs only [qCosts, bne, Bool.not_true, Bool.not_false, Bool.true_and, Bool.false_and, Bool.and_true, Bool.and_false, eCo, eG, eS, e0, e1, e2, e3, go_sem, eI, eB, ↓reduceIte, Nat.reduceEqDiff, Nat.reduceAdd, Nat.reduceLeDiff, Nat.reduceMul, Nat.reduceBEq, Nat.reduceBneDiff, Nat.reduceLT, Nat.reduceSub, Bool.false_eq_true, List.cons_append, List.nil_append]
theorem qCosts_refl (m : Co) : qCosts m m = true := by simp [qCosts, qG, famBoolSS.q_refl, famInt64SSS.q_refl]
noncomputable def famCosts : Fam Try.prog eCo 31 33 36 := ⟨szCosts, tCosts, qCosts, fitCosts, szCosts_in, szCosts_fit, qCosts_refl, af31, af33, af36⟩
theorem famCosts_t (x) : famCosts.t x = tCosts x := rfl
noncomputable def famBoolSSS : Fam Try.prog (eS 1 (eS 1 (eS 1 eB))) 86 91 101 := famC mixed famBoolSS (encS (eS 1 eB) 1) ⟨rfl, rfl, rfl⟩ (by omega) res86 res91 res101
theorem famBoolSSS_t (x) : famBoolSSS.t x = (some false, x.2.map famBoolSS.t) := rfl
noncomputable def szModel (m : Mo) : Int → Int := fun l => nx (famBoolSS.s m.2.2.1 l) (fun l => nx (famBoolSSS.s m.2.2.2 l) (fun l => l))
def fitModel (m : Mo) : Prop := famBoolSS.fit m.2.2.1 ∧ famBoolSSS.fit m.2.2.2
noncomputable def tModel (m : Mo) : Mo := (m.1, m.2.1, famBoolSS.t m.2.2.1, famBoolSSS.t m.2.2.2)
noncomputable def qModel (a b : Mo) : Bool := (qG a.1 b.1 && ((a.2.1 == b.2.1) && (famBoolSS.q a.2.2.1 b.2.2.1 && famBoolSSS.q a.2.2.2 b.2.2.2)))
theorem szModel_in (m : Mo) (l : Int) (h1 : 0 ≤ l) (h2 : l ≤ 1048576) : -1 ≤ szModel m l ∧ szModel m l ≤ l := by
  refine in_tr (Int.le_refl l) (nx_in (famBoolSS.s_in m.2.2.1 l h1 (by omega)) h1 (by omega) fun y0 a0 b0 => ?_)
  refine in_tr b0 (nx_in (famBoolSSS.s_in m.2.2.2 y0 a0 (by omega)) a0 (by omega) fun y1 a1 b1 => ?_)
  exact ⟨by omega, b1⟩
theorem szModel_fit (m : Mo) (l : Int) (h2 : l ≤ 1048576) (h1 : 0 ≤ l) (h : 0 ≤ szModel m l) : fitModel m := by
  obtain ⟨p0, h⟩ := nx_fit h
  have e0 := famBoolSS.s_fit m.2.2.1 l (by omega) h1 p0
  have b0 := famBoolSS.s_in m.2.2.1 l h1 (by omega)
  obtain ⟨p1, h⟩ := nx_fit h
  have e1 := famBoolSSS.s_fit m.2.2.2 _ (by omega) p0 p1
  have b1 := famBoolSSS.s_in m.2.2.2 (famBoolSS.s m.2.2.1 l) p0 (by omega)
  exact ⟨e0, e1⟩
theorem af15 (m : Mo) (l : Int) (h1 : 0 ≤ l) (h2 : l ≤ 1048576) : AF Try.prog 15 [eM m, eI l] (.own (eI (szModel m l))) := by
  refine af_of_res res15 mixed rfl fun _ => ?_
  simp +contextual -implicitDefEqProofs only [rc15, eM, eG, eS, go_sem, eI, eB, ↓reduceIte, Nat.reduceEqDiff, Nat.reduceAdd, Nat.reduceLeDiff, Nat.reduceMul, Nat.reduceBEq, Nat.reduceBneDiff, Nat.reduceLT, Nat.reduceSub, Bool.false_eq_true, List.cons_append, List.nil_append]
  refine callQ_self ?_ (famBoolSS.afS m.2.2.1 l (by omega) (by omega)) ?_
  · exact rfl
  simp +contextual -implicitDefEqProofs only [eM, eG, eS, go_sem, eI, eB, ↓reduceIte, Nat.reduceEqDiff, Nat.reduceAdd, Nat.reduceLeDiff, Nat.reduceMul, Nat.reduceBEq, Nat.reduceBneDiff, Nat.reduceLT, Nat.reduceSub, Bool.false_eq_true, List.cons_append, List.nil_append]
  have b0 := famBoolSS.s_in m.2.2.1 l (by omega) (by omega)
  refine ⟨fun h => D.Le.sc_eq (by simp only [szModel]; rw [nx_neg h]), fun g0 => ?_⟩
  refine callQ_self ?_ (famBoolSSS.afS m.2.2.2 (famBoolSS.s m.2.2.1 l) (by omega) (by omega)) ?_
  · exact rfl
  simp +contextual -implicitDefEqProofs only [eM, eG, eS, go_sem, eI, eB, ↓reduceIte, Nat.reduceEqDiff, Nat.reduceAdd, Nat.reduceLeDiff, Nat.reduceMul, Nat.reduceBEq, Nat.reduceBneDiff, Nat.reduceLT, Nat.reduceSub, Bool.false_eq_true, List.cons_append, List.nil_append]
  have b1 := famBoolSSS.s_in m.2.2.2 (famBoolSS.s m.2.2.1 l) (by omega) (by omega)
  refine ⟨fun h => D.Le.sc_eq (by simp only [szModel]; rw [nx_pos g0, nx_neg h]), fun g1 => ?_⟩
  exact D.Le.sc_eq (by simp only [szModel]; rw [nx_pos g0, nx_pos g1])
theorem af18 (m : Mo) (h : fitModel m) : AF Try.prog 18 [eM m] (.own (eM (tModel m))) := by
  refine af_of_res res18 mixed rfl fun _ => ?_
  simp +contextual -implicitDefEqProofs only [rc18, eM, eG, eS, tModel, famBoolSS_t, famBoolSSS_t, go_sem, eI, eB, ↓reduceIte, Nat.reduceEqDiff, Nat.reduceAdd, Nat.reduceLeDiff, Nat.reduceMul, Nat.reduceBEq, Nat.reduceBneDiff, Nat.reduceLT, Nat.reduceSub, Bool.false_eq_true, List.cons_append, List.nil_append]
  refine callQ_self ?_ (af50 m.1) ?_
  · exact rfl
  simp +contextual -implicitDefEqProofs only [eM, eG, eS, tModel, famBoolSS_t, famBoolSSS_t, go_sem, eI, eB, ↓reduceIte, Nat.reduceEqDiff, Nat.reduceAdd, Nat.reduceLeDiff, Nat.reduceMul, Nat.reduceBEq, Nat.reduceBneDiff, Nat.reduceLT, Nat.reduceSub, Bool.false_eq_true, List.cons_append, List.nil_append]
  refine callQ_self ?_ (famBoolSS.afT m.2.2.1 h.1) ?_
  · exact rfl
  simp +contextual -implicitDefEqProofs only [eM, eG, eS, tModel, famBoolSS_t, famBoolSSS_t, go_sem, eI, eB, ↓reduceIte, Nat.reduceEqDiff, Nat.reduceAdd, Nat.reduceLeDiff, Nat.reduceMul, Nat.reduceBEq, Nat.reduceBneDiff, Nat.reduceLT, Nat.reduceSub, Bool.false_eq_true, List.cons_append, List.nil_append]
  refine callQ_self ?_ (famBoolSSS.afT m.2.2.2 h.2) ?_
  · exact rfl
  simp +contextual -implicitDefEqProofs only [eM, eG, eS, tModel, famBoolSS_t, famBoolSSS_t, go_sem, eI, eB, ↓reduceIte, Nat.reduceEqDiff, Nat.reduceAdd, Nat.reduceLeDiff, Nat.reduceMul, Nat.reduceBEq, Nat.reduceBneDiff, Nat.reduceLT, Nat.reduceSub, Bool.false_eq_true, List.cons_append, List.nil_append]
theorem af23 (a b : Mo) : AF Try.prog 23 [eM a, eM b] (.own (eB (qModel a b))) := by
  refine af_of_res res23 mixed rfl fun _ => ?_
  simp +contextual -implicitDefEqProofs only [rc23, qModel, bne, Bool.not_true, Bool.not_false, Bool.true_and, Bool.false_and, Bool.and_true, Bool.and_false, eM, eG, eS, go_sem, eI, eB, ↓reduceIte, Nat.reduceEqDiff, Nat.reduceAdd, Nat.reduceLeDiff, Nat.reduceMul, Nat.reduceBEq, Nat.reduceBneDiff, Nat.reduceLT, Nat.reduceSub, Bool.false_eq_true, List.cons_append, List.nil_append]
  refine callQ_self ?_ (af99 a.1 b.1) ?_
  · exact rfl
  cases e0 : qG a.1 b.1
  · simp +contextual -implicitDefEqProofs only [qModel, bne, Bool.not_true, Bool.not_false, Bool.true_and, Bool.false_and, Bool.and_true, Bool.and_false, eM, eG, eS, e0, go_sem, eI, eB, ↓reduceIte, Nat.reduceEqDiff, Nat.reduceAdd, Nat.reduceLeDiff, Nat.reduceMul, Nat.reduceBEq, Nat.reduceBneDiff, Nat.reduceLT, Nat.reduceSub, Bool.false_eq_true, List.cons_append, List.nil_append]
  cases e1 : (a.2.1 == b.2.1)
  · simp +contextual -implicitDefEqProofs only [qModel, bne, Bool.not_true, Bool.not_false, Bool.true_and, Bool.false_and, Bool.and_true, Bool.and_false, eM, eG, eS, e0, e1, go_sem, eI, eB, ↓reduceIte, Nat.reduceEqDiff, Nat.reduceAdd, Nat.reduceLeDiff, Nat.reduceMul, Nat.reduceBEq, Nat.reduceBneDiff, Nat.reduceLT, Nat.reduceSub, Bool.false_eq_true, List.cons_append, List.nil_append]
  simp +contextual -implicitDefEqProofs only [qModel, bne, Bool.not_true, Bool.not_false, Bool.true_and, Bool.false_and, Bool.and_true, Bool.and_false, eM, eG, eS, e0, e1, go_sem, eI, eB, ↓reduceIte, Nat.reduceEqDiff, Nat.reduceAdd, Nat.reduceLeDiff, Nat.reduceMul, Nat.reduceBEq, Nat.reduceBneDiff, Nat.reduceLT, Nat.reduceSub, Bool.false_eq_true, List.cons_append, List.nil_append]
  refine callQ_self ?_ (famBoolSS.afQ a.2.2.1 b.2.2.1) ?_
  · exact rfl
  cases e2 : famBoolSS.q a.2.2.1 b.2.2.1
  · simp +contextual -implicitDefEqProofs only [qModel, bne, Bool.not_true, Bool.not_false, Bool.true_and, Bool.false_and, Bool.and_true, Bool.and_false, eM, eG, eS, e0, e1, e2, go_sem, eI, eB, ↓reduceIte, Nat.reduceEqDiff, Nat.reduceAdd, Nat.reduceLeDiff, Nat.reduceMul, Nat.reduceBEq, Nat.reduceBneDiff, Nat.reduceLT, Nat.reduceSub, Bool.false_eq_true, List.cons_append, List.nil_append]
  simp +contextual -implicitDefEqProofs only [qModel, bne, Bool.not_true, Bool.not_false, Bool.true_and, Bool.false_and, Bool.and_true, Bool.and_false, eM, eG, eS, e0, e1, e2, go_sem, eI, eB, ↓reduceIte, Nat.reduceEqDiff, Nat.reduceAdd, Nat.reduceLeDiff, Nat.reduceMul, Nat.reduceBEq, Nat.reduceBneDiff, Nat.reduceLT, Nat.reduceSub, Bool.false_eq_true, List.cons_append, List.nil_append]
  refine callQ_self ?_ (famBoolSSS.afQ a.2.2.2 b.2.2.2) ?_
  · exact rfl
  cases e3 : famBoolSSS.q a.2.2.2 b.2.2.2
  · simp +contextual -implicitDefEqProofs only [qModel, bne, Bool.not_true, Bool.not_false, Bool.true_and, Bool.false_and, Bool.and_true, Bool.and_false, eM, eG, eS, e0, e1, e2, e3, go_sem, eI, eB, ↓reduceIte, Nat.reduceEqDiff, Nat.reduceAdd, Nat.reduceLeDiff, Nat.reduceMul, Nat.reduceBEq, Nat.reduceBneDiff, Nat.reduceLT, Nat.reduceSub, Bool.false_eq_true, List.cons_append, List.nil_append]
  · simp +contextual -implicitDefEqProofs only [qModel, bne, Bool.not_true, Bool.not_false, Bool.true_and, Bool.false_and, Bool.and_true, Bool.and_false, eM, eG, eS, e0, e1, e2, e3, go_sem, eI, eB, ↓reduceIte, Nat.reduceEqDiff, Nat.reduceAdd, Nat.reduceLeDiff, Nat.reduceMul, Nat.reduceBEq, Nat.reduceBneDiff, Nat.reduceLT, Nat.reduceSub, Bool.false_eq_true, List.cons_append, List.nil_append]
theorem qModel_refl (m : Mo) : qModel m m = true := by simp [qModel, qG, famBoolSS.q_refl, famBoolSSS.q_refl]
noncomputable def famModel : Fam Try.prog eM 15 18 23 := ⟨szModel, tModel, qModel, fitModel, szModel_in, szModel_fit, qModel_refl, af15, af18, af23⟩
theorem famModel_t (x) : famModel.t x = tModel x := rfl
noncomputable def hfBoolS : HFam Try.prog (eS 1 eB) famBoolS.s famBoolS.t 183 205 := hfB mixed (fun _ _ => rfl) (fun _ => rfl) res183 res205
noncomputable def hfBoolSS : HFam Try.prog (eS 1 (eS 1 eB)) famBoolSS.s famBoolSS.t 103 125 := hfC mixed famBoolS (encS eB 1) hfBoolS (fun _ => rfl) res103 res125
noncomputable def hfBoolSSS : HFam Try.prog (eS 1 (eS 1 (eS 1 eB))) famBoolSSS.s famBoolSSS.t 104 126 := hfC mixed famBoolSS (encS (eS 1 eB) 1) hfBoolSS (fun _ => rfl) res104 res126
noncomputable def mrkModel (m : Mo) (k : Int) : Mo := (m.1, m.2.1, hfBoolSS.mrk m.2.2.1 k, hfBoolSSS.mrk m.2.2.2 (k + hfBoolSS.cnt m.2.2.1))
noncomputable def cntModel (m : Mo) : Nat := hfBoolSS.cnt m.2.2.1 + hfBoolSSS.cnt m.2.2.2
theorem mk_Model (m : Mo) (k : Int) (h0 : 0 ≤ k) (h1 : k + cntModel m ≤ maxK) : AFM Try.prog 25 (eM m) k (eM (mrkModel m k)) (k + cntModel m) := by
  unfold cntModel at h1 ⊢
  refine afm_ag res25 (by omega) rfl fun hbd => ?_
  simp +contextual -implicitDefEqProofs only [rc25, eM, eG, eS, eI, D.at, D.sub, D.put, D.cells, D.size, D.sizeL, D.isAg, go_sem, eB, ↓reduceIte, Nat.reduceEqDiff, Nat.reduceAdd, Nat.reduceLeDiff, Nat.reduceMul, Nat.reduceBEq, Nat.reduceBneDiff, Nat.reduceLT, Nat.reduceSub, Bool.false_eq_true, List.cons_append, List.nil_append, Int.ofNat_lt, List.length_map, Int.natCast_nonneg]
  refine mMcl_self (e' := eS 1 (eS 1 eB) (hfBoolSS.mrk m.2.2.1 k)) (n' := k + hfBoolSS.cnt m.2.2.1) ?_ rfl (.inr rfl) ?_
  · exact hfBoolSS.afM m.2.2.1 k (by omega) (by omega)
  simp +contextual -implicitDefEqProofs only [eM, eG, eS, eI, D.at, D.sub, D.put, D.cells, D.size, D.sizeL, D.isAg, mrkModel, go_sem, eB, ↓reduceIte, Nat.reduceEqDiff, Nat.reduceAdd, Nat.reduceLeDiff, Nat.reduceMul, Nat.reduceBEq, Nat.reduceBneDiff, Nat.reduceLT, Nat.reduceSub, Bool.false_eq_true, List.cons_append, List.nil_append, Int.ofNat_lt, List.length_map, Int.natCast_nonneg]
  refine mMcl_self (e' := eS 1 (eS 1 (eS 1 eB)) (hfBoolSSS.mrk m.2.2.2 (k + hfBoolSS.cnt m.2.2.1))) (n' := k + hfBoolSS.cnt m.2.2.1 + hfBoolSSS.cnt m.2.2.2) ?_ rfl (.inr rfl) ?_
  · exact hfBoolSSS.afM m.2.2.2 (k + hfBoolSS.cnt m.2.2.1) (by omega) (by omega)
  simp +contextual -implicitDefEqProofs only [eM, eG, eS, eI, D.at, D.sub, D.put, D.cells, D.size, D.sizeL, D.isAg, mrkModel, go_sem, eB, ↓reduceIte, Nat.reduceEqDiff, Nat.reduceAdd, Nat.reduceLeDiff, Nat.reduceMul, Nat.reduceBEq, Nat.reduceBneDiff, Nat.reduceLT, Nat.reduceSub, Bool.false_eq_true, List.cons_append, List.nil_append, Int.ofNat_lt, List.length_map, Int.natCast_nonneg]
  try simp only [Int.natCast_add, Int.add_assoc]
  try trivial
theorem hd_Model (m : Mo) (k : Int) (h0 : 0 ≤ k) (h1 : k + cntModel m ≤ maxK) : AF Try.prog 47 [eM (mrkModel m k), eI k] (.own (eI (k + cntModel m))) := by
  unfold cntModel at h1 ⊢
  unfold maxK at h1
  refine af_of_res res47 mixed rfl fun hbd => ?_
  simp +contextual -implicitDefEqProofs only [rc47, eM, eG, eS, mrkModel, eI, D.at, D.sub, D.put, D.cells, D.size, D.sizeL, D.isAg, go_sem, eB, ↓reduceIte, Nat.reduceEqDiff, Nat.reduceAdd, Nat.reduceLeDiff, Nat.reduceMul, Nat.reduceBEq, Nat.reduceBneDiff, Nat.reduceLT, Nat.reduceSub, Bool.false_eq_true, List.cons_append, List.nil_append, Int.ofNat_lt, List.length_map, Int.natCast_nonneg]
  refine callQ_self (ds := [eS 1 (eS 1 eB) (hfBoolSS.mrk m.2.2.1 k), eI k]) (by rfl) (hfBoolSS.afH m.2.2.1 k (by omega) (by unfold maxK; omega)) ?_
  have n0 : ¬ (k + hfBoolSS.cnt m.2.2.1 < 0) := by omega
  simp +contextual -implicitDefEqProofs only [n0, eM, eG, eS, mrkModel, eI, D.at, D.sub, D.put, D.cells, D.size, D.sizeL, D.isAg, go_sem, eB, ↓reduceIte, Nat.reduceEqDiff, Nat.reduceAdd, Nat.reduceLeDiff, Nat.reduceMul, Nat.reduceBEq, Nat.reduceBneDiff, Nat.reduceLT, Nat.reduceSub, Bool.false_eq_true, List.cons_append, List.nil_append, Int.ofNat_lt, List.length_map, Int.natCast_nonneg]
  refine callQ_self (ds := [eS 1 (eS 1 (eS 1 eB)) (hfBoolSSS.mrk m.2.2.2 (k + hfBoolSS.cnt m.2.2.1)), eI (k + hfBoolSS.cnt m.2.2.1)]) (by rfl) (hfBoolSSS.afH m.2.2.2 (k + hfBoolSS.cnt m.2.2.1) (by omega) (by unfold maxK; omega)) ?_
  have n1 : ¬ (k + hfBoolSS.cnt m.2.2.1 + hfBoolSSS.cnt m.2.2.2 < 0) := by omega
  simp +contextual -implicitDefEqProofs only [n1, eM, eG, eS, mrkModel, eI, D.at, D.sub, D.put, D.cells, D.size, D.sizeL, D.isAg, go_sem, eB, ↓reduceIte, Nat.reduceEqDiff, Nat.reduceAdd, Nat.reduceLeDiff, Nat.reduceMul, Nat.reduceBEq, Nat.reduceBneDiff, Nat.reduceLT, Nat.reduceSub, Bool.false_eq_true, List.cons_append, List.nil_append, Int.ofNat_lt, List.length_map, Int.natCast_nonneg]
  try exact D.Le.sc_eq (by simp only [Int.natCast_add, Int.add_assoc])
noncomputable def hfModel : HFam Try.prog eM szModel tModel 25 47 where
  mrk := mrkModel
  cnt := cntModel
  cnt_s m l h1 h2 h := by
    unfold szModel at h ⊢
    unfold cntModel
    obtain ⟨p0, h⟩ := nx_fit h
    rw [nx_pos (by omega)]
    have b0 := famBoolSS.s_in m.2.2.1 l (by omega) (by omega)
    have c0 := hfBoolSS.cnt_s m.2.2.1 l (by omega) (by omega) p0
    obtain ⟨p1, h⟩ := nx_fit h
    rw [nx_pos (by omega)]
    have b1 := famBoolSSS.s_in m.2.2.2 (famBoolSS.s m.2.2.1 l) (by omega) (by omega)
    have c1 := hfBoolSSS.cnt_s m.2.2.2 (famBoolSS.s m.2.2.1 l) (by omega) (by omega) p1
    push_cast
    omega
  cnt_t m := by unfold cntModel tModel; simp only [hfBoolSS.cnt_t, hfBoolSSS.cnt_t]
  afM := mk_Model
  afH := hd_Model
noncomputable def hfInt64S : MFam Try.prog (eS 1 eI) famInt64S.s famInt64S.t 27 := mfI (fun _ _ => rfl) (fun _ => rfl) res27
noncomputable def hfInt64SS : MFam Try.prog (eS 1 (eS 1 eI)) famInt64SS.s famInt64SS.t 38 := mfC famInt64S (encS eI 1) hfInt64S (fun _ => rfl) res38
noncomputable def hfInt64SSS : MFam Try.prog (eS 1 (eS 1 (eS 1 eI))) famInt64SSS.s famInt64SSS.t 115 := mfC famInt64SS (encS (eS 1 eI) 1) hfInt64SS (fun _ => rfl) res115
noncomputable def mrkCosts (m : Co) (k : Int) : Co := (m.1, m.2.1, hfBoolSS.mrk m.2.2.1 k, hfInt64SSS.mrk m.2.2.2 (k + hfBoolSS.cnt m.2.2.1))
noncomputable def cntCosts (m : Co) : Nat := hfBoolSS.cnt m.2.2.1 + hfInt64SSS.cnt m.2.2.2
theorem mk_Costs (m : Co) (k : Int) (h0 : 0 ≤ k) (h1 : k + cntCosts m ≤ maxK) : AFM Try.prog 37 (eCo m) k (eCo (mrkCosts m k)) (k + cntCosts m) := by
  unfold cntCosts at h1 ⊢
  refine afm_ag res37 (by omega) rfl fun hbd => ?_
  simp +contextual -implicitDefEqProofs only [rc37, eCo, eG, eS, eI, D.at, D.sub, D.put, D.cells, D.size, D.sizeL, D.isAg, go_sem, eB, ↓reduceIte, Nat.reduceEqDiff, Nat.reduceAdd, Nat.reduceLeDiff, Nat.reduceMul, Nat.reduceBEq, Nat.reduceBneDiff, Nat.reduceLT, Nat.reduceSub, Bool.false_eq_true, List.cons_append, List.nil_append, Int.ofNat_lt, List.length_map, Int.natCast_nonneg]
  refine mMcl_self (e' := eS 1 (eS 1 eB) (hfBoolSS.mrk m.2.2.1 k)) (n' := k + hfBoolSS.cnt m.2.2.1) ?_ rfl (.inr rfl) ?_
  · exact hfBoolSS.afM m.2.2.1 k (by omega) (by omega)
  simp +contextual -implicitDefEqProofs only [eCo, eG, eS, eI, D.at, D.sub, D.put, D.cells, D.size, D.sizeL, D.isAg, mrkCosts, go_sem, eB, ↓reduceIte, Nat.reduceEqDiff, Nat.reduceAdd, Nat.reduceLeDiff, Nat.reduceMul, Nat.reduceBEq, Nat.reduceBneDiff, Nat.reduceLT, Nat.reduceSub, Bool.false_eq_true, List.cons_append, List.nil_append, Int.ofNat_lt, List.length_map, Int.natCast_nonneg]
  refine mMcl_self (e' := eS 1 (eS 1 (eS 1 eI)) (hfInt64SSS.mrk m.2.2.2 (k + hfBoolSS.cnt m.2.2.1))) (n' := k + hfBoolSS.cnt m.2.2.1 + hfInt64SSS.cnt m.2.2.2) ?_ rfl (.inr rfl) ?_
  · exact hfInt64SSS.afM m.2.2.2 (k + hfBoolSS.cnt m.2.2.1) (by omega) (by omega)
  simp +contextual -implicitDefEqProofs only [eCo, eG, eS, eI, D.at, D.sub, D.put, D.cells, D.size, D.sizeL, D.isAg, mrkCosts, go_sem, eB, ↓reduceIte, Nat.reduceEqDiff, Nat.reduceAdd, Nat.reduceLeDiff, Nat.reduceMul, Nat.reduceBEq, Nat.reduceBneDiff, Nat.reduceLT, Nat.reduceSub, Bool.false_eq_true, List.cons_append, List.nil_append, Int.ofNat_lt, List.length_map, Int.natCast_nonneg]
  try simp only [Int.natCast_add, Int.add_assoc]
  try trivial
noncomputable def hfCosts : MFam Try.prog eCo szCosts tCosts 37 where
  mrk := mrkCosts
  cnt := cntCosts
  cnt_s m l h1 h2 h := by
    unfold szCosts at h ⊢
    unfold cntCosts
    obtain ⟨p0, h⟩ := nx_fit h
    rw [nx_pos (by omega)]
    have b0 := famBoolSS.s_in m.2.2.1 l (by omega) (by omega)
    have c0 := hfBoolSS.cnt_s m.2.2.1 l (by omega) (by omega) p0
    obtain ⟨p1, h⟩ := nx_fit h
    rw [nx_pos (by omega)]
    have b1 := famInt64SSS.s_in m.2.2.2 (famBoolSS.s m.2.2.1 l) (by omega) (by omega)
    have c1 := hfInt64SSS.cnt_s m.2.2.2 (famBoolSS.s m.2.2.1 l) (by omega) (by omega) p1
    push_cast
    omega
  cnt_t m := by unfold cntCosts tCosts; simp only [hfBoolSS.cnt_t, hfInt64SSS.cnt_t]
  afM := mk_Costs

theorem supp_cnt (c : Co) : hfModel.cnt (suppR c).1 ≤ 2000000000 := by
  unfold suppR
  split
  · next ho =>
    obtain ⟨n, hC⟩ := okCo_ok ho
    have n8 := hC.n8
    have tl := hC.tl
    have al := hC.al
    have hn : c.2.1.toNat = n := by rw [hC.pts]; rfl
    rw [hn]
    have r1 : cntL (fun x : SL Bool => x.2.length) (c.2.2.1.2.map fun r => ((some false, r.2) : SL Bool)) ≤ _ := cntL_bd (c := 8) (fun x hx => by obtain ⟨r, hr, rfl⟩ := List.mem_map.1 hx; have := hC.tr r hr; simp only; omega)
    have r2 : cntL (fun x : SL (SL Bool) => cntL (fun x : SL Bool => x.2.length) x.2) (c.2.2.2.2.map fun a => rTab n (supR a)) ≤ _ := cntL_bd (c := 64) (fun x hx => by
      obtain ⟨a, _, rfl⟩ := List.mem_map.1 hx
      have sq : Sq n (rTab n (supR a)) := rTab_sq
      have := cntL_bd (cnt := fun x : SL Bool => x.2.length) (l := (rTab n (supR a)).2) (c := 8) (fun x hx => by have := sq.row x hx; omega)
      have hl := sq.len
      omega)
    simp only [List.length_map] at r1 r2
    show cntL (fun x : SL Bool => x.2.length) (c.2.2.1.2.map fun r => ((some false, r.2) : SL Bool)) + cntL (fun x : SL (SL Bool) => cntL (fun x : SL Bool => x.2.length) x.2) (c.2.2.2.2.map fun a => rTab n (supR a)) ≤ _
    omega
  · exact Nat.zero_le _
theorem law (c : Co) : AF Try.prog 9 [eCo c] (.own (eB true)) := by
  refine af_of_res res9 mixed rfl fun hbd => ?_
  simp +contextual -implicitDefEqProofs only [rc9, eCo, eM, eG, eS, eI, eB, famCosts_t, tCosts, famModel_t, tModel, famBoolSS_t, famBoolSSS_t, famInt64SSS_t, bne_self_eq_false, go_sem, ↓reduceIte, Nat.reduceEqDiff, Nat.reduceAdd, Nat.reduceLeDiff, Nat.reduceMul, Nat.reduceBEq, Nat.reduceBneDiff, Nat.reduceLT, Nat.reduceSub, Bool.false_eq_true, List.cons_append, List.nil_append]
  refine callQ_self (ds := [eCo c, eI 1048576]) ?_ (famCosts.afS c 1048576 (by omega) (by omega)) ?_
  · simp only [eCo, eM, eG, eS, eI, eB, famCosts_t, tCosts, famModel_t, tModel, famBoolSS_t, famBoolSSS_t, famInt64SSS_t, bne_self_eq_false]; exact rfl
  simp +contextual -implicitDefEqProofs only [eCo, eM, eG, eS, eI, eB, famCosts_t, tCosts, famModel_t, tModel, famBoolSS_t, famBoolSSS_t, famInt64SSS_t, bne_self_eq_false, go_sem, ↓reduceIte, Nat.reduceEqDiff, Nat.reduceAdd, Nat.reduceLeDiff, Nat.reduceMul, Nat.reduceBEq, Nat.reduceBneDiff, Nat.reduceLT, Nat.reduceSub, Bool.false_eq_true, List.cons_append, List.nil_append]
  have sb0 := famCosts.s_in c 1048576 (by omega) (by omega)
  refine fun hs0 => ?_
  have hf0 := famCosts.s_fit c 1048576 (by omega) (by omega) (by omega)
  refine callQ_self (ds := [eCo c]) ?_ (famCosts.afT c hf0) ?_
  · simp only [eCo, eM, eG, eS, eI, eB, famCosts_t, tCosts, famModel_t, tModel, famBoolSS_t, famBoolSSS_t, famInt64SSS_t, bne_self_eq_false]; exact rfl
  simp +contextual -implicitDefEqProofs only [eCo, eM, eG, eS, eI, eB, famCosts_t, tCosts, famModel_t, tModel, famBoolSS_t, famBoolSSS_t, famInt64SSS_t, bne_self_eq_false, go_sem, ↓reduceIte, Nat.reduceEqDiff, Nat.reduceAdd, Nat.reduceLeDiff, Nat.reduceMul, Nat.reduceBEq, Nat.reduceBneDiff, Nat.reduceLT, Nat.reduceSub, Bool.false_eq_true, List.cons_append, List.nil_append]
  have hnn : ∀ r ∈ (famCosts.t c).2.2.1.2, r.1 = some false := by
    intro r hr
    obtain ⟨x, _, rfl⟩ := List.mem_map.1 hr
    rfl
  have hsp := af55 (famCosts.t c) hnn
  have him := af56 (famCosts.t c) hnn
  have hqM := fun x => famModel.afQ x x
  simp only [famModel.q_refl] at hqM
  have hqC := famCosts.afQ (famCosts.t c) (famCosts.t c)
  rw [famCosts.q_refl] at hqC
  have hc0 : (hfCosts.cnt (famCosts.t c) : Int) ≤ 8388608 := by
    have h := hfCosts.cnt_s c 1048576 (by omega) (by omega) (Int.not_lt.1 hs0)
    have e : hfCosts.cnt (famCosts.t c) = hfCosts.cnt c := hfCosts.cnt_t c
    have h' : 0 ≤ szCosts c 1048576 := Int.not_lt.1 hs0
    rw [e]; omega
  have hc1 := supp_cnt (famCosts.t c)
  generalize suppR (famCosts.t c) = r at hsp him hc1
  obtain ⟨r, k⟩ := r
  simp only at hsp him hc1
  have hM0 := hfCosts.afM (famCosts.t c) 1 (by omega) (by unfold maxK; omega)
  generalize hfCosts.cnt (famCosts.t c) = cT at hM0 hc0
  generalize hfCosts.mrk (famCosts.t c) 1 = mT at hM0
  have hM1 := hfModel.afM r 1 (by omega) (by unfold maxK; omega)
  have hH1 := hfModel.afH r 1 (by omega) (by unfold maxK; omega)
  generalize hfModel.cnt r = cR at hM1 hH1 hc1
  generalize hfModel.mrk r 1 = mR at hM1 hH1
  have hk0 : ¬ (1 + (cT : Int) < 0) := by omega
  have hk1 : ¬ (1 + (cR : Int) < 0) := by omega
  refine callQ_self (ds := [eCo (famCosts.t c)]) ?_ (hsp) ?_
  · simp only [eCo, eM, eG, eS, eI, eB, famCosts_t, tCosts, famModel_t, tModel, famBoolSS_t, famBoolSSS_t, famInt64SSS_t, bne_self_eq_false]; exact rfl
  simp +contextual -implicitDefEqProofs only [eCo, eM, eG, eS, eI, eB, famCosts_t, tCosts, famModel_t, tModel, famBoolSS_t, famBoolSSS_t, famInt64SSS_t, bne_self_eq_false, go_sem, ↓reduceIte, Nat.reduceEqDiff, Nat.reduceAdd, Nat.reduceLeDiff, Nat.reduceMul, Nat.reduceBEq, Nat.reduceBneDiff, Nat.reduceLT, Nat.reduceSub, Bool.false_eq_true, List.cons_append, List.nil_append]
  refine callQ_self (ds := [eCo c]) ?_ (famCosts.afT c hf0) ?_
  · simp only [eCo, eM, eG, eS, eI, eB, famCosts_t, tCosts, famModel_t, tModel, famBoolSS_t, famBoolSSS_t, famInt64SSS_t, bne_self_eq_false]; exact rfl
  simp +contextual -implicitDefEqProofs only [eCo, eM, eG, eS, eI, eB, famCosts_t, tCosts, famModel_t, tModel, famBoolSS_t, famBoolSSS_t, famInt64SSS_t, bne_self_eq_false, go_sem, ↓reduceIte, Nat.reduceEqDiff, Nat.reduceAdd, Nat.reduceLeDiff, Nat.reduceMul, Nat.reduceBEq, Nat.reduceBneDiff, Nat.reduceLT, Nat.reduceSub, Bool.false_eq_true, List.cons_append, List.nil_append]
  refine callQ_self (ds := [eCo (famCosts.t c)]) ?_ (him) ?_
  · simp only [eCo, eM, eG, eS, eI, eB, famCosts_t, tCosts, famModel_t, tModel, famBoolSS_t, famBoolSSS_t, famInt64SSS_t, bne_self_eq_false]; exact rfl
  simp +contextual -implicitDefEqProofs only [eCo, eM, eG, eS, eI, eB, famCosts_t, tCosts, famModel_t, tModel, famBoolSS_t, famBoolSSS_t, famInt64SSS_t, bne_self_eq_false, go_sem, ↓reduceIte, Nat.reduceEqDiff, Nat.reduceAdd, Nat.reduceLeDiff, Nat.reduceMul, Nat.reduceBEq, Nat.reduceBneDiff, Nat.reduceLT, Nat.reduceSub, Bool.false_eq_true, List.cons_append, List.nil_append]
  refine callQ_self (ds := [eM r, eM r]) ?_ (hqM r) ?_
  · simp only [eCo, eM, eG, eS, eI, eB, famCosts_t, tCosts, famModel_t, tModel, famBoolSS_t, famBoolSSS_t, famInt64SSS_t, bne_self_eq_false]; exact rfl
  simp +contextual -implicitDefEqProofs only [Bool.not_true, eCo, eM, eG, eS, eI, eB, famCosts_t, tCosts, famModel_t, tModel, famBoolSS_t, famBoolSSS_t, famInt64SSS_t, bne_self_eq_false, go_sem, ↓reduceIte, Nat.reduceEqDiff, Nat.reduceAdd, Nat.reduceLeDiff, Nat.reduceMul, Nat.reduceBEq, Nat.reduceBneDiff, Nat.reduceLT, Nat.reduceSub, Bool.false_eq_true, List.cons_append, List.nil_append]
  refine callQ_self (ds := [eCo c]) ?_ (famCosts.afT c hf0) ?_
  · simp only [eCo, eM, eG, eS, eI, eB, famCosts_t, tCosts, famModel_t, tModel, famBoolSS_t, famBoolSSS_t, famInt64SSS_t, bne_self_eq_false]; exact rfl
  simp +contextual -implicitDefEqProofs only [eCo, eM, eG, eS, eI, eB, famCosts_t, tCosts, famModel_t, tModel, famBoolSS_t, famBoolSSS_t, famInt64SSS_t, bne_self_eq_false, go_sem, ↓reduceIte, Nat.reduceEqDiff, Nat.reduceAdd, Nat.reduceLeDiff, Nat.reduceMul, Nat.reduceBEq, Nat.reduceBneDiff, Nat.reduceLT, Nat.reduceSub, Bool.false_eq_true, List.cons_append, List.nil_append]
  refine callQ_self (ds := [eCo (famCosts.t c), eCo (famCosts.t c)]) ?_ (hqC) ?_
  · simp only [eCo, eM, eG, eS, eI, eB, famCosts_t, tCosts, famModel_t, tModel, famBoolSS_t, famBoolSSS_t, famInt64SSS_t, bne_self_eq_false]; exact rfl
  simp +contextual -implicitDefEqProofs only [Bool.not_true, eCo, eM, eG, eS, eI, eB, famCosts_t, tCosts, famModel_t, tModel, famBoolSS_t, famBoolSSS_t, famInt64SSS_t, bne_self_eq_false, go_sem, ↓reduceIte, Nat.reduceEqDiff, Nat.reduceAdd, Nat.reduceLeDiff, Nat.reduceMul, Nat.reduceBEq, Nat.reduceBneDiff, Nat.reduceLT, Nat.reduceSub, Bool.false_eq_true, List.cons_append, List.nil_append]
  refine ⟨eCo mT, 1 + cT, hM0, ⟨rfl, fun _ => rfl, rfl⟩, ?_⟩
  simp +contextual -implicitDefEqProofs only [hk0, D.put, D.cells, D.size, D.sizeL, D.isAg, D.at, D.sub, eCo, eM, eG, eS, eI, eB, famCosts_t, tCosts, famModel_t, tModel, famBoolSS_t, famBoolSSS_t, famInt64SSS_t, bne_self_eq_false, go_sem, ↓reduceIte, Nat.reduceEqDiff, Nat.reduceAdd, Nat.reduceLeDiff, Nat.reduceMul, Nat.reduceBEq, Nat.reduceBneDiff, Nat.reduceLT, Nat.reduceSub, Bool.false_eq_true, List.cons_append, List.nil_append]
  refine callQ_self (ds := [eM r, eM r]) ?_ (hqM r) ?_
  · simp only [eCo, eM, eG, eS, eI, eB, famCosts_t, tCosts, famModel_t, tModel, famBoolSS_t, famBoolSSS_t, famInt64SSS_t, bne_self_eq_false]; exact rfl
  simp +contextual -implicitDefEqProofs only [Bool.not_true, eCo, eM, eG, eS, eI, eB, famCosts_t, tCosts, famModel_t, tModel, famBoolSS_t, famBoolSSS_t, famInt64SSS_t, bne_self_eq_false, go_sem, ↓reduceIte, Nat.reduceEqDiff, Nat.reduceAdd, Nat.reduceLeDiff, Nat.reduceMul, Nat.reduceBEq, Nat.reduceBneDiff, Nat.reduceLT, Nat.reduceSub, Bool.false_eq_true, List.cons_append, List.nil_append]
  refine ⟨eM mR, 1 + cR, hM1, ⟨rfl, fun _ => rfl, rfl⟩, ?_⟩
  simp +contextual -implicitDefEqProofs only [D.put, D.cells, D.size, D.sizeL, D.isAg, D.at, D.sub, eCo, eM, eG, eS, eI, eB, famCosts_t, tCosts, famModel_t, tModel, famBoolSS_t, famBoolSSS_t, famInt64SSS_t, bne_self_eq_false, go_sem, ↓reduceIte, Nat.reduceEqDiff, Nat.reduceAdd, Nat.reduceLeDiff, Nat.reduceMul, Nat.reduceBEq, Nat.reduceBneDiff, Nat.reduceLT, Nat.reduceSub, Bool.false_eq_true, List.cons_append, List.nil_append]
  refine callQ_self (ds := [eM mR, eI 1]) ?_ (hH1) ?_
  · simp only [eCo, eM, eG, eS, eI, eB, famCosts_t, tCosts, famModel_t, tModel, famBoolSS_t, famBoolSSS_t, famInt64SSS_t, bne_self_eq_false]; exact rfl
  simp +contextual -implicitDefEqProofs only [hk1, eCo, eM, eG, eS, eI, eB, famCosts_t, tCosts, famModel_t, tModel, famBoolSS_t, famBoolSSS_t, famInt64SSS_t, bne_self_eq_false, go_sem, ↓reduceIte, Nat.reduceEqDiff, Nat.reduceAdd, Nat.reduceLeDiff, Nat.reduceMul, Nat.reduceBEq, Nat.reduceBneDiff, Nat.reduceLT, Nat.reduceSub, Bool.false_eq_true, List.cons_append, List.nil_append]
  refine callQ_self (ds := [eCo c]) ?_ (famCosts.afT c hf0) ?_
  · simp only [eCo, eM, eG, eS, eI, eB, famCosts_t, tCosts, famModel_t, tModel, famBoolSS_t, famBoolSSS_t, famInt64SSS_t, bne_self_eq_false]; exact rfl
  simp +contextual -implicitDefEqProofs only [eCo, eM, eG, eS, eI, eB, famCosts_t, tCosts, famModel_t, tModel, famBoolSS_t, famBoolSSS_t, famInt64SSS_t, bne_self_eq_false, go_sem, ↓reduceIte, Nat.reduceEqDiff, Nat.reduceAdd, Nat.reduceLeDiff, Nat.reduceMul, Nat.reduceBEq, Nat.reduceBneDiff, Nat.reduceLT, Nat.reduceSub, Bool.false_eq_true, List.cons_append, List.nil_append]
  refine callQ_self (ds := [eCo (famCosts.t c)]) ?_ (him) ?_
  · simp only [eCo, eM, eG, eS, eI, eB, famCosts_t, tCosts, famModel_t, tModel, famBoolSS_t, famBoolSSS_t, famInt64SSS_t, bne_self_eq_false]; exact rfl
  simp +contextual -implicitDefEqProofs only [eCo, eM, eG, eS, eI, eB, famCosts_t, tCosts, famModel_t, tModel, famBoolSS_t, famBoolSSS_t, famInt64SSS_t, bne_self_eq_false, go_sem, ↓reduceIte, Nat.reduceEqDiff, Nat.reduceAdd, Nat.reduceLeDiff, Nat.reduceMul, Nat.reduceBEq, Nat.reduceBneDiff, Nat.reduceLT, Nat.reduceSub, Bool.false_eq_true, List.cons_append, List.nil_append]
  refine callQ_self (ds := [eM r, eM r]) ?_ (hqM r) ?_
  · simp only [eCo, eM, eG, eS, eI, eB, famCosts_t, tCosts, famModel_t, tModel, famBoolSS_t, famBoolSSS_t, famInt64SSS_t, bne_self_eq_false]; exact rfl
  simp +contextual -implicitDefEqProofs only [Bool.not_true, eCo, eM, eG, eS, eI, eB, famCosts_t, tCosts, famModel_t, tModel, famBoolSS_t, famBoolSSS_t, famInt64SSS_t, bne_self_eq_false, go_sem, ↓reduceIte, Nat.reduceEqDiff, Nat.reduceAdd, Nat.reduceLeDiff, Nat.reduceMul, Nat.reduceBEq, Nat.reduceBneDiff, Nat.reduceLT, Nat.reduceSub, Bool.false_eq_true, List.cons_append, List.nil_append]
  refine callQ_self (ds := [eM mR, eI 1]) ?_ (hH1) ?_
  · simp only [eCo, eM, eG, eS, eI, eB, famCosts_t, tCosts, famModel_t, tModel, famBoolSS_t, famBoolSSS_t, famInt64SSS_t, bne_self_eq_false]; exact rfl
  simp +contextual -implicitDefEqProofs only [hk1, eCo, eM, eG, eS, eI, eB, famCosts_t, tCosts, famModel_t, tModel, famBoolSS_t, famBoolSSS_t, famInt64SSS_t, bne_self_eq_false, go_sem, ↓reduceIte, Nat.reduceEqDiff, Nat.reduceAdd, Nat.reduceLeDiff, Nat.reduceMul, Nat.reduceBEq, Nat.reduceBneDiff, Nat.reduceLT, Nat.reduceSub, Bool.false_eq_true, List.cons_append, List.nil_append]
end Go.Ax
