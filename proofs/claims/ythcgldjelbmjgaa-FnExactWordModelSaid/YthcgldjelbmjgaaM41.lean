/- Contracts of functions of the seat, proved over the engine. No condition. -/
import Derived.Test.YthcgldjelbmjgaaX57
import Derived.Test.YthcgldjelbmjgaaAxI
import Derived.Test.YthcgldjelbmjgaaChecked
set_option linter.unusedSimpArgs false
set_option linter.unusedVariables false
set_option linter.unnecessarySimpa false
namespace Go.Ax
open Go.Proofs
set_option linter.unusedSimpArgs false
theorem mixed : Try.prog.follows .mixedOrders = true := by kernel_rfl
theorem res127 : resF Try.prog 127 = some (12, cSzP, [.t 4]) := by kernel_rfl

def rc48 : RC := (.seq (.reg false [⟨none, .box 2 2 (.t 0)⟩, ⟨none, .mv 4 (.c (.sc (.int .i64 0)))⟩]) ((.seq (.reg false [⟨none, .fa 5 0 (.t 2)⟩, ⟨none, .ld 6 false 1 (.t 5)⟩, ⟨none, .mv 7 (.t 1)⟩, ⟨none, .call (some 8) 127 [(.t 6), (.t 7)]⟩, ⟨none, .mv 1 (.t 8)⟩]) ((.seq ((.seq (.reg false [⟨none, .mv 9 (.t 1)⟩, ⟨none, .bin 10 .lss (.t 9) (.c (.sc (.int .i64 0)))⟩]) (.cond (.t 10) ((.seq (.reg false [⟨none, .mv 4 (.c (.sc (.int .i64 (-1))))⟩]) (.ret))) (.skip)))) ((.seq (.reg false [⟨none, .fa 11 1 (.t 2)⟩, ⟨none, .ld 12 false 1 (.t 11)⟩, ⟨none, .mv 13 (.t 1)⟩, ⟨none, .call (some 14) 127 [(.t 12), (.t 13)]⟩, ⟨none, .mv 1 (.t 14)⟩]) ((.seq ((.seq (.reg false [⟨none, .mv 15 (.t 1)⟩, ⟨none, .bin 16 .lss (.t 15) (.c (.sc (.int .i64 0)))⟩]) (.cond (.t 16) ((.seq (.reg false [⟨none, .mv 4 (.c (.sc (.int .i64 (-1))))⟩]) (.ret))) (.skip)))) ((.seq (.reg false [⟨none, .mv 17 (.t 1)⟩, ⟨none, .mv 4 (.t 17)⟩]) (.ret))))))))))))
theorem res48 : resF Try.prog 48 = some (18, rc48, [.t 4]) := by kernel_rfl
theorem res50 : resF Try.prog 50 = some (11, k_toSig, [.c 2 2 true]) := by kernel_rfl
theorem af50 : K_toSig Try.prog 50 := a_toSig mixed res50
theorem res20 : resF Try.prog 20 = some (22, cToS 8 (.sc (.int .i64 0)), [.t 2]) := by kernel_rfl

def rc51 : RC := (.seq (.reg false [⟨none, .box 1 2 (.t 0)⟩, ⟨none, .zer 2 2 (.ag [(.ls (some true) 1 []), (.ls (some true) 1 [])])⟩]) ((.seq (.reg false [⟨none, .zer 3 2 (.ag [(.ls (some true) 1 []), (.ls (some true) 1 [])])⟩]) ((.seq (.reg false [⟨none, .fa 4 0 (.t 1)⟩, ⟨none, .ld 5 false 1 (.t 4)⟩, ⟨none, .call (some 6) 20 [(.t 5)]⟩, ⟨none, .fa 7 0 (.t 3)⟩, ⟨none, .st 1 (.t 7) (.t 6)⟩]) ((.seq (.reg false [⟨none, .fa 8 1 (.t 1)⟩, ⟨none, .ld 9 false 1 (.t 8)⟩, ⟨none, .call (some 10) 20 [(.t 9)]⟩, ⟨none, .fa 11 1 (.t 3)⟩, ⟨none, .st 1 (.t 11) (.t 10)⟩]) ((.seq (.reg false [⟨none, .ld 12 true 2 (.t 3)⟩, ⟨none, .st 2 (.t 2) (.t 12)⟩]) (.ret))))))))))
theorem res51 : resF Try.prog 51 = some (13, rc51, [.c 2 2 true]) := by kernel_rfl
theorem res159 : resF Try.prog 159 = some (15, k_l00In, [.t 6]) := by kernel_rfl
theorem af159 : K_l00In Try.prog 159 := a_l00In mixed res159
theorem res148 : resF Try.prog 148 = some (11, k_l01Sig 159, [.t 2]) := by kernel_rfl
theorem af148 : K_l01Sig Try.prog 148 := a_l01Sig mixed res148 af159
theorem res206 : resF Try.prog 206 = some (7, k_l01Atoms, [.t 2]) := by kernel_rfl
theorem af206 : K_l01Atoms Try.prog 206 := a_l01Atoms mixed res206
theorem res128 : resF Try.prog 128 = some (74, k_l01Word 148 206 159, [.t 4]) := by kernel_rfl
theorem af128 : K_l01Word Try.prog 128 := a_l01Word mixed res128 af148 af206 af159
theorem res121 : resF Try.prog 121 = some (17, k_l05None, [.t 2]) := by kernel_rfl
theorem af121 : K_l05None Try.prog 121 := a_l05None mixed res121
theorem res129 : resF Try.prog 129 = some (91, k_l05WordModel 121, [.c 4 5 true]) := by kernel_rfl
theorem af129 : K_l05WordModel Try.prog 129 := a_l05WordModel mixed res129 af121
theorem res49 : resF Try.prog 49 = some (17, k_spWordModel 128 129, [.c 4 5 true, .t 5]) := by kernel_rfl
theorem af49 : K_spWordModel Try.prog 49 := a_spWordModel mixed res49 af128 af129
theorem res158 : resF Try.prog 158 = some (15, k_within, [.t 6]) := by kernel_rfl
theorem af158 : K_within Try.prog 158 := a_within mixed res158
theorem res207 : resF Try.prog 207 = some (11, k_validSig 158, [.t 2]) := by kernel_rfl
theorem af207 : K_validSig Try.prog 207 := a_validSig mixed res207 af158
theorem res257 : resF Try.prog 257 = some (6, k_atomsIn, [.t 2]) := by kernel_rfl
theorem af257 : K_atomsIn Try.prog 257 := a_atomsIn mixed res257
theorem res176 : resF Try.prog 176 = some (19, k_inRange 158, [.t 4]) := by kernel_rfl
theorem af176 : K_inRange Try.prog 176 := a_inRange mixed res176 af158
theorem res245 : resF Try.prog 245 = some (27, k_isTrace 257 176, [.t 4]) := by kernel_rfl
theorem af245 : K_isTrace Try.prog 245 := a_isTrace mixed res245 af257 af176
theorem res208 : resF Try.prog 208 = some (14, k_isWord 245, [.t 4]) := by kernel_rfl
theorem af208 : K_isWord Try.prog 208 := a_isWord mixed res208 af245
theorem res130 : resF Try.prog 130 = some (12, k_imValidWord 207 208, [.t 4]) := by kernel_rfl
theorem af130 : K_imValidWord Try.prog 130 := a_imValidWord mixed res130 af207 af208
theorem res123 : resF Try.prog 123 = some (33, k_tableB, [.t 4]) := by kernel_rfl
theorem af123 : K_tableB Try.prog 123 := a_tableB mixed res123
theorem res209 : resF Try.prog 209 = some (20, k_wordModel1, [.t 6]) := by kernel_rfl
theorem af209 : K_wordModel1 Try.prog 209 := a_wordModel1 mixed res209
theorem res131 : resF Try.prog 131 = some (66, k_wordModel 123 209, [.c 4 5 true, .t 5]) := by kernel_rfl
theorem af131 : K_wordModel Try.prog 131 := a_wordModel mixed res131 af123 af209
theorem res52 : resF Try.prog 52 = some (16, k_imWordModel 130 131, [.c 4 5 true, .t 5]) := by kernel_rfl
theorem af52 : K_imWordModel Try.prog 52 := a_imWordModel mixed res52 af130 af131
theorem res99 : resF Try.prog 99 = some (15, k_eqSig, [.t 4]) := by kernel_rfl
theorem af99 : K_eqSig Try.prog 99 := a_eqSig mixed res99
theorem res182 : resF Try.prog 182 = some (26, cEqB, [.t 4]) := by kernel_rfl
theorem res100 : resF Try.prog 100 = some (27, cEqC 182 1 false, [.t 4]) := by kernel_rfl
theorem res101 : resF Try.prog 101 = some (27, cEqC 100 1 false, [.t 4]) := by kernel_rfl

def rc23 : RC := (.seq (.reg false [⟨none, .box 2 5 (.t 0)⟩, ⟨none, .box 3 5 (.t 1)⟩, ⟨none, .mv 4 (.c (.sc (.bool false)))⟩]) ((.seq ((.seq (.reg false [⟨none, .fa 5 0 (.t 2)⟩, ⟨none, .ld 6 true 2 (.t 5)⟩, ⟨none, .fa 7 0 (.t 3)⟩, ⟨none, .ld 8 true 2 (.t 7)⟩, ⟨none, .call (some 9) 99 [(.t 6), (.t 8)]⟩, ⟨none, .un 10 .not (.t 9)⟩]) (.cond (.t 10) ((.seq (.reg false [⟨none, .mv 4 (.c (.sc (.bool false)))⟩]) (.ret))) (.skip)))) ((.seq ((.seq (.reg false [⟨none, .fa 11 2 (.t 2)⟩, ⟨none, .ld 12 false 1 (.t 11)⟩, ⟨none, .fa 13 2 (.t 3)⟩, ⟨none, .ld 14 false 1 (.t 13)⟩, ⟨none, .bin 15 .neq (.t 12) (.t 14)⟩]) (.cond (.t 15) ((.seq (.reg false [⟨none, .mv 4 (.c (.sc (.bool false)))⟩]) (.ret))) (.skip)))) ((.seq ((.seq (.reg false [⟨none, .fa 16 3 (.t 2)⟩, ⟨none, .ld 17 false 1 (.t 16)⟩, ⟨none, .fa 18 3 (.t 3)⟩, ⟨none, .ld 19 false 1 (.t 18)⟩, ⟨none, .call (some 20) 100 [(.t 17), (.t 19)]⟩, ⟨none, .un 21 .not (.t 20)⟩]) (.cond (.t 21) ((.seq (.reg false [⟨none, .mv 4 (.c (.sc (.bool false)))⟩]) (.ret))) (.skip)))) ((.seq ((.seq (.reg false [⟨none, .fa 22 4 (.t 2)⟩, ⟨none, .ld 23 false 1 (.t 22)⟩, ⟨none, .fa 24 4 (.t 3)⟩, ⟨none, .ld 25 false 1 (.t 24)⟩, ⟨none, .call (some 26) 101 [(.t 23), (.t 25)]⟩, ⟨none, .un 27 .not (.t 26)⟩]) (.cond (.t 27) ((.seq (.reg false [⟨none, .mv 4 (.c (.sc (.bool false)))⟩]) (.ret))) (.skip)))) ((.seq (.reg false [⟨none, .mv 4 (.c (.sc (.bool true)))⟩]) (.ret))))))))))))
theorem res23 : resF Try.prog 23 = some (28, rc23, [.t 4]) := by kernel_rfl
theorem res22 : resF Try.prog 22 = some (26, cEqS, [.t 4]) := by kernel_rfl

def rc53 : RC := (.seq (.reg false [⟨none, .box 2 2 (.t 0)⟩, ⟨none, .box 3 2 (.t 1)⟩, ⟨none, .mv 4 (.c (.sc (.bool false)))⟩]) ((.seq ((.seq (.reg false [⟨none, .fa 5 0 (.t 2)⟩, ⟨none, .ld 6 false 1 (.t 5)⟩, ⟨none, .fa 7 0 (.t 3)⟩, ⟨none, .ld 8 false 1 (.t 7)⟩, ⟨none, .call (some 9) 22 [(.t 6), (.t 8)]⟩, ⟨none, .un 10 .not (.t 9)⟩]) (.cond (.t 10) ((.seq (.reg false [⟨none, .mv 4 (.c (.sc (.bool false)))⟩]) (.ret))) (.skip)))) ((.seq ((.seq (.reg false [⟨none, .fa 11 1 (.t 2)⟩, ⟨none, .ld 12 false 1 (.t 11)⟩, ⟨none, .fa 13 1 (.t 3)⟩, ⟨none, .ld 14 false 1 (.t 13)⟩, ⟨none, .call (some 15) 22 [(.t 12), (.t 14)]⟩, ⟨none, .un 16 .not (.t 15)⟩]) (.cond (.t 16) ((.seq (.reg false [⟨none, .mv 4 (.c (.sc (.bool false)))⟩]) (.ret))) (.skip)))) ((.seq (.reg false [⟨none, .mv 4 (.c (.sc (.bool true)))⟩]) (.ret))))))))
theorem res53 : resF Try.prog 53 = some (17, rc53, [.t 4]) := by kernel_rfl
theorem res205 : resF Try.prog 205 = some (23, cHdB, [.t 4]) := by kernel_rfl
theorem res125 : resF Try.prog 125 = some (21, cHdC 205, [.t 4]) := by kernel_rfl
theorem res126 : resF Try.prog 126 = some (21, cHdC 125, [.t 4]) := by kernel_rfl

def rc47 : RC := (.seq (.reg false [⟨none, .box 2 5 (.t 0)⟩, ⟨none, .mv 4 (.c (.sc (.int .i64 0)))⟩]) ((.seq (.reg false [⟨none, .fa 5 3 (.t 2)⟩, ⟨none, .ld 6 false 1 (.t 5)⟩, ⟨none, .mv 7 (.t 1)⟩, ⟨none, .call (some 8) 125 [(.t 6), (.t 7)]⟩, ⟨none, .mv 1 (.t 8)⟩]) ((.seq ((.seq (.reg false [⟨none, .mv 9 (.t 1)⟩, ⟨none, .bin 10 .lss (.t 9) (.c (.sc (.int .i64 0)))⟩]) (.cond (.t 10) ((.seq (.reg false [⟨none, .mv 4 (.c (.sc (.int .i64 (-1))))⟩]) (.ret))) (.skip)))) ((.seq (.reg false [⟨none, .fa 11 4 (.t 2)⟩, ⟨none, .ld 12 false 1 (.t 11)⟩, ⟨none, .mv 13 (.t 1)⟩, ⟨none, .call (some 14) 126 [(.t 12), (.t 13)]⟩, ⟨none, .mv 1 (.t 14)⟩]) ((.seq ((.seq (.reg false [⟨none, .mv 15 (.t 1)⟩, ⟨none, .bin 16 .lss (.t 15) (.c (.sc (.int .i64 0)))⟩]) (.cond (.t 16) ((.seq (.reg false [⟨none, .mv 4 (.c (.sc (.int .i64 (-1))))⟩]) (.ret))) (.skip)))) ((.seq (.reg false [⟨none, .mv 17 (.t 1)⟩, ⟨none, .mv 4 (.t 17)⟩]) (.ret))))))))))))
theorem res47 : resF Try.prog 47 = some (18, rc47, [.t 4]) := by kernel_rfl
theorem res27 : resF Try.prog 27 = some (19, cMkI, [.t 4]) := by kernel_rfl

def rc54 : RC := (.seq (.reg false [⟨none, .box 2 2 (.t 0)⟩, ⟨none, .mv 4 (.c (.sc (.int .i64 0)))⟩]) ((.seq (.reg false [⟨none, .fa 5 0 (.t 2)⟩, ⟨none, .ld 6 false 1 (.t 5)⟩, ⟨none, .mv 7 (.t 1)⟩, ⟨none, .mcl 8 27 (.t 6) (.t 7)⟩, ⟨none, .mv 1 (.t 8)⟩]) ((.seq (.reg false [⟨none, .fa 9 1 (.t 2)⟩, ⟨none, .ld 10 false 1 (.t 9)⟩, ⟨none, .mv 11 (.t 1)⟩, ⟨none, .mcl 12 27 (.t 10) (.t 11)⟩, ⟨none, .mv 1 (.t 12)⟩]) ((.seq (.reg false [⟨none, .mv 13 (.t 1)⟩, ⟨none, .mv 4 (.t 13)⟩]) (.ret))))))))
theorem res54 : resF Try.prog 54 = some (14, rc54, [.t 4]) := by kernel_rfl
theorem res183 : resF Try.prog 183 = some (21, cMkB, [.t 4]) := by kernel_rfl
theorem res103 : resF Try.prog 103 = some (19, cMkC 183, [.t 4]) := by kernel_rfl
theorem res104 : resF Try.prog 104 = some (19, cMkC 103, [.t 4]) := by kernel_rfl

def rc25 : RC := (.seq (.reg false [⟨none, .box 2 5 (.t 0)⟩, ⟨none, .mv 4 (.c (.sc (.int .i64 0)))⟩]) ((.seq (.reg false [⟨none, .fa 5 3 (.t 2)⟩, ⟨none, .ld 6 false 1 (.t 5)⟩, ⟨none, .mv 7 (.t 1)⟩, ⟨none, .mcl 8 103 (.t 6) (.t 7)⟩, ⟨none, .mv 1 (.t 8)⟩]) ((.seq (.reg false [⟨none, .fa 9 4 (.t 2)⟩, ⟨none, .ld 10 false 1 (.t 9)⟩, ⟨none, .mv 11 (.t 1)⟩, ⟨none, .mcl 12 104 (.t 10) (.t 11)⟩, ⟨none, .mv 1 (.t 12)⟩]) ((.seq (.reg false [⟨none, .mv 13 (.t 1)⟩, ⟨none, .mv 4 (.t 13)⟩]) (.ret))))))))
theorem res25 : resF Try.prog 25 = some (14, rc25, [.t 4]) := by kernel_rfl

def rc8 : RC := (.seq (.reg false [⟨none, .box 2 2 (.t 0)⟩, ⟨none, .box 3 2 (.t 1)⟩, ⟨none, .mv 4 (.c (.sc (.bool false)))⟩]) ((.seq (.reg false [⟨none, .mv 5 (.c (.sc (.int .i64 1048576)))⟩]) ((.seq (.reg false [⟨none, .ld 16 true 2 (.t 3)⟩, ⟨none, .mv 17 (.t 5)⟩, ⟨none, .call (some 18) 48 [(.t 16), (.t 17)]⟩, ⟨none, .mv 5 (.t 18)⟩]) ((.seq ((.seq (.reg false [⟨none, .mv 19 (.t 5)⟩, ⟨none, .bin 20 .lss (.t 19) (.c (.sc (.int .i64 0)))⟩]) (.cond (.t 20) ((.seq (.reg false [⟨none, .mv 4 (.c (.sc (.bool true)))⟩]) (.ret))) (.skip)))) ((.seq (.reg true [⟨none, .ld 22 true 2 (.t 2)⟩, ⟨none, .call (some 23) 50 [(.t 22)]⟩, ⟨none, .ld 24 true 2 (.t 3)⟩, ⟨none, .call (some 25) 51 [(.t 24)]⟩, ⟨none, .call (some 26) 49 [(.t 23), (.t 25)]⟩, ⟨none, .mv 21 (.t 26)⟩, ⟨none, .ext 27 (.t 21) 0⟩, ⟨none, .ext 28 (.t 21) 1⟩, ⟨none, .zer 6 5 (.ag [(.sc (.int .i64 0)), (.sc (.int .i64 0)), (.sc (.int .i64 0)), (.ls (some true) 1 []), (.ls (some true) 1 [])])⟩, ⟨none, .st 5 (.t 6) (.t 27)⟩, ⟨none, .mv 7 (.t 28)⟩]) ((.seq (.reg false [⟨none, .ld 29 true 2 (.t 3)⟩, ⟨none, .call (some 30) 51 [(.t 29)]⟩, ⟨none, .zer 8 2 (.ag [(.ls (some true) 1 []), (.ls (some true) 1 [])])⟩, ⟨none, .st 2 (.t 8) (.t 30)⟩]) ((.seq (.reg true [⟨none, .ld 32 true 2 (.t 2)⟩, ⟨none, .call (some 33) 50 [(.t 32)]⟩, ⟨none, .ld 34 true 2 (.t 8)⟩, ⟨none, .call (some 35) 52 [(.t 33), (.t 34)]⟩, ⟨none, .mv 31 (.t 35)⟩, ⟨none, .ext 36 (.t 31) 0⟩, ⟨none, .ext 37 (.t 31) 1⟩, ⟨none, .zer 9 5 (.ag [(.sc (.int .i64 0)), (.sc (.int .i64 0)), (.sc (.int .i64 0)), (.ls (some true) 1 []), (.ls (some true) 1 [])])⟩, ⟨none, .st 5 (.t 9) (.t 36)⟩, ⟨none, .mv 10 (.t 37)⟩]) ((.seq ((.seq (.reg false [⟨none, .ld 38 true 5 (.t 9)⟩, ⟨none, .ld 39 true 5 (.t 6)⟩, ⟨none, .call (some 40) 23 [(.t 38), (.t 39)]⟩, ⟨none, .un 41 .not (.t 40)⟩, ⟨none, .mv 42 (.t 41)⟩, ⟨some (42, false), .mv 43 (.t 10)⟩, ⟨some (42, false), .mv 44 (.t 7)⟩, ⟨some (42, false), .bin 45 .neq (.t 43) (.t 44)⟩, ⟨none, .pick 46 (.t 42) (.c (.sc (.bool true))) (.t 45)⟩]) (.cond (.t 46) ((.seq (.reg false [⟨none, .mv 4 (.c (.sc (.bool false)))⟩]) (.ret))) (.skip)))) ((.seq ((.seq (.reg true [⟨none, .ld 47 true 2 (.t 8)⟩, ⟨none, .ld 48 true 2 (.t 3)⟩, ⟨none, .call (some 49) 51 [(.t 48)]⟩, ⟨none, .call (some 50) 53 [(.t 47), (.t 49)]⟩, ⟨none, .un 51 .not (.t 50)⟩]) (.cond (.t 51) ((.seq (.reg false [⟨none, .mv 4 (.c (.sc (.bool false)))⟩]) (.ret))) (.skip)))) ((.seq (.reg false [⟨none, .mv 11 (.c (.sc (.int .i64 1)))⟩]) ((.seq (.reg false [⟨none, .ld 52 true 2 (.t 8)⟩, ⟨none, .mv 53 (.t 11)⟩, ⟨none, .mcl 54 54 (.t 52) (.t 53)⟩, ⟨none, .mv 11 (.t 54)⟩]) ((.seq ((.seq (.reg false [⟨none, .mv 55 (.t 11)⟩, ⟨none, .bin 56 .lss (.t 55) (.c (.sc (.int .i64 0)))⟩, ⟨none, .mv 57 (.t 56)⟩, ⟨some (57, false), .ld 58 true 5 (.t 9)⟩, ⟨some (57, false), .ld 59 true 5 (.t 6)⟩, ⟨some (57, false), .call (some 60) 23 [(.t 58), (.t 59)]⟩, ⟨some (57, false), .un 61 .not (.t 60)⟩, ⟨none, .pick 62 (.t 57) (.c (.sc (.bool true))) (.t 61)⟩, ⟨none, .mv 63 (.t 62)⟩, ⟨some (63, false), .mv 64 (.t 10)⟩, ⟨some (63, false), .mv 65 (.t 7)⟩, ⟨some (63, false), .bin 66 .neq (.t 64) (.t 65)⟩, ⟨none, .pick 67 (.t 63) (.c (.sc (.bool true))) (.t 66)⟩]) (.cond (.t 67) ((.seq (.reg false [⟨none, .mv 4 (.c (.sc (.bool false)))⟩]) (.ret))) (.skip)))) ((.seq (.reg false [⟨none, .mv 12 (.c (.sc (.int .i64 1)))⟩]) ((.seq (.reg false [⟨none, .ld 68 true 5 (.t 9)⟩, ⟨none, .mv 69 (.t 12)⟩, ⟨none, .mcl 70 25 (.t 68) (.t 69)⟩, ⟨none, .mv 12 (.t 70)⟩]) ((.seq (.reg false [⟨none, .mv 13 (.c (.sc (.int .i64 1)))⟩]) ((.seq (.reg false [⟨none, .ld 71 true 5 (.t 9)⟩, ⟨none, .mv 72 (.t 13)⟩, ⟨none, .call (some 73) 47 [(.t 71), (.t 72)]⟩, ⟨none, .mv 13 (.t 73)⟩]) ((.seq ((.seq (.reg false [⟨none, .mv 74 (.t 13)⟩, ⟨none, .bin 75 .lss (.t 74) (.c (.sc (.int .i64 0)))⟩]) (.cond (.t 75) ((.seq (.reg false [⟨none, .mv 4 (.c (.sc (.bool false)))⟩]) (.ret))) (.skip)))) ((.seq ((.seq (.reg false [⟨none, .mv 76 (.t 13)⟩, ⟨none, .mv 77 (.t 12)⟩, ⟨none, .bin 78 .neq (.t 76) (.t 77)⟩]) (.cond (.t 78) ((.seq (.reg false [⟨none, .mv 4 (.c (.sc (.bool false)))⟩]) (.ret))) (.skip)))) ((.seq (.reg true [⟨none, .ld 80 true 2 (.t 2)⟩, ⟨none, .call (some 81) 50 [(.t 80)]⟩, ⟨none, .ld 82 true 2 (.t 3)⟩, ⟨none, .call (some 83) 51 [(.t 82)]⟩, ⟨none, .call (some 84) 52 [(.t 81), (.t 83)]⟩, ⟨none, .mv 79 (.t 84)⟩, ⟨none, .ext 85 (.t 79) 0⟩, ⟨none, .ext 86 (.t 79) 1⟩, ⟨none, .zer 14 5 (.ag [(.sc (.int .i64 0)), (.sc (.int .i64 0)), (.sc (.int .i64 0)), (.ls (some true) 1 []), (.ls (some true) 1 [])])⟩, ⟨none, .st 5 (.t 14) (.t 85)⟩, ⟨none, .mv 15 (.t 86)⟩]) ((.seq ((.seq (.reg false [⟨none, .ld 87 true 5 (.t 14)⟩, ⟨none, .ld 88 true 5 (.t 6)⟩, ⟨none, .call (some 89) 23 [(.t 87), (.t 88)]⟩, ⟨none, .un 90 .not (.t 89)⟩, ⟨none, .mv 91 (.t 90)⟩, ⟨some (91, false), .mv 92 (.t 15)⟩, ⟨some (91, false), .mv 93 (.t 7)⟩, ⟨some (91, false), .bin 94 .neq (.t 92) (.t 93)⟩, ⟨none, .pick 95 (.t 91) (.c (.sc (.bool true))) (.t 94)⟩]) (.cond (.t 95) ((.seq (.reg false [⟨none, .mv 4 (.c (.sc (.bool false)))⟩]) (.ret))) (.skip)))) ((.seq (.reg false [⟨none, .mv 13 (.c (.sc (.int .i64 1)))⟩]) ((.seq (.reg false [⟨none, .ld 96 true 5 (.t 9)⟩, ⟨none, .mv 97 (.t 13)⟩, ⟨none, .call (some 98) 47 [(.t 96), (.t 97)]⟩, ⟨none, .mv 13 (.t 98)⟩]) ((.seq ((.seq (.reg false [⟨none, .mv 99 (.t 13)⟩, ⟨none, .bin 100 .lss (.t 99) (.c (.sc (.int .i64 0)))⟩]) (.cond (.t 100) ((.seq (.reg false [⟨none, .mv 4 (.c (.sc (.bool false)))⟩]) (.ret))) (.skip)))) ((.seq ((.seq (.reg false [⟨none, .mv 101 (.t 13)⟩, ⟨none, .mv 102 (.t 12)⟩, ⟨none, .bin 103 .neq (.t 101) (.t 102)⟩]) (.cond (.t 103) ((.seq (.reg false [⟨none, .mv 4 (.c (.sc (.bool false)))⟩]) (.ret))) (.skip)))) ((.seq (.reg false [⟨none, .mv 4 (.c (.sc (.bool true)))⟩]) (.ret))))))))))))))))))))))))))))))))))))))))))))))))))
theorem res8 : resF Try.prog 8 = some (104, rc8, [.t 4]) := by kernel_rfl
theorem res169 : resF Try.prog 169 = some (12, cSzP, [.t 4]) := by kernel_rfl
theorem res85 : resF Try.prog 85 = some (27, cSzC 169 1 false, [.t 4]) := by kernel_rfl
theorem res86 : resF Try.prog 86 = some (27, cSzC 85 1 false, [.t 4]) := by kernel_rfl

def rc15 : RC := (.seq (.reg false [⟨none, .box 2 5 (.t 0)⟩, ⟨none, .mv 4 (.c (.sc (.int .i64 0)))⟩]) ((.seq (.reg false [⟨none, .fa 5 3 (.t 2)⟩, ⟨none, .ld 6 false 1 (.t 5)⟩, ⟨none, .mv 7 (.t 1)⟩, ⟨none, .call (some 8) 85 [(.t 6), (.t 7)]⟩, ⟨none, .mv 1 (.t 8)⟩]) ((.seq ((.seq (.reg false [⟨none, .mv 9 (.t 1)⟩, ⟨none, .bin 10 .lss (.t 9) (.c (.sc (.int .i64 0)))⟩]) (.cond (.t 10) ((.seq (.reg false [⟨none, .mv 4 (.c (.sc (.int .i64 (-1))))⟩]) (.ret))) (.skip)))) ((.seq (.reg false [⟨none, .fa 11 4 (.t 2)⟩, ⟨none, .ld 12 false 1 (.t 11)⟩, ⟨none, .mv 13 (.t 1)⟩, ⟨none, .call (some 14) 86 [(.t 12), (.t 13)]⟩, ⟨none, .mv 1 (.t 14)⟩]) ((.seq ((.seq (.reg false [⟨none, .mv 15 (.t 1)⟩, ⟨none, .bin 16 .lss (.t 15) (.c (.sc (.int .i64 0)))⟩]) (.cond (.t 16) ((.seq (.reg false [⟨none, .mv 4 (.c (.sc (.int .i64 (-1))))⟩]) (.ret))) (.skip)))) ((.seq (.reg false [⟨none, .mv 17 (.t 1)⟩, ⟨none, .mv 4 (.t 17)⟩]) (.ret))))))))))))
theorem res15 : resF Try.prog 15 = some (18, rc15, [.t 4]) := by kernel_rfl
theorem res172 : resF Try.prog 172 = some (22, cToS 1 (.sc (.bool false)), [.t 2]) := by kernel_rfl
theorem res90 : resF Try.prog 90 = some (23, cToC 172 1 24 false (.ls (some true) 1 []), [.t 2]) := by kernel_rfl
theorem res91 : resF Try.prog 91 = some (23, cToC 90 1 24 false (.ls (some true) 1 []), [.t 2]) := by kernel_rfl

def rc18 : RC := (.seq (.reg false [⟨none, .box 1 5 (.t 0)⟩, ⟨none, .zer 2 5 (.ag [(.sc (.int .i64 0)), (.sc (.int .i64 0)), (.sc (.int .i64 0)), (.ls (some true) 1 []), (.ls (some true) 1 [])])⟩]) ((.seq (.reg false [⟨none, .zer 3 5 (.ag [(.sc (.int .i64 0)), (.sc (.int .i64 0)), (.sc (.int .i64 0)), (.ls (some true) 1 []), (.ls (some true) 1 [])])⟩]) ((.seq (.reg false [⟨none, .fa 4 0 (.t 1)⟩, ⟨none, .ld 5 true 2 (.t 4)⟩, ⟨none, .call (some 6) 50 [(.t 5)]⟩, ⟨none, .fa 7 0 (.t 3)⟩, ⟨none, .st 2 (.t 7) (.t 6)⟩]) ((.seq (.reg false [⟨none, .fa 8 2 (.t 1)⟩, ⟨none, .ld 9 false 1 (.t 8)⟩, ⟨none, .fa 10 2 (.t 3)⟩, ⟨none, .st 1 (.t 10) (.t 9)⟩]) ((.seq (.reg false [⟨none, .fa 11 3 (.t 1)⟩, ⟨none, .ld 12 false 1 (.t 11)⟩, ⟨none, .call (some 13) 90 [(.t 12)]⟩, ⟨none, .fa 14 3 (.t 3)⟩, ⟨none, .st 1 (.t 14) (.t 13)⟩]) ((.seq (.reg false [⟨none, .fa 15 4 (.t 1)⟩, ⟨none, .ld 16 false 1 (.t 15)⟩, ⟨none, .call (some 17) 91 [(.t 16)]⟩, ⟨none, .fa 18 4 (.t 3)⟩, ⟨none, .st 1 (.t 18) (.t 17)⟩]) ((.seq (.reg false [⟨none, .ld 19 true 5 (.t 3)⟩, ⟨none, .st 5 (.t 2) (.t 19)⟩]) (.ret))))))))))))))
theorem res18 : resF Try.prog 18 = some (20, rc18, [.c 2 5 true]) := by kernel_rfl
noncomputable def famInt64S : Fam Try.prog (eS 1 eI) 127 20 22 := famP mixed encI noI ⟨rfl, rfl, rfl⟩ (by omega) res127 res20 (eqL fun x y => x == y) (fun _ => eqL_refl fun _ _ => by simp) fun a b => af_eqS mixed res22 a b
theorem famInt64S_t (x) : famInt64S.t x = (some false, x.2) := rfl
noncomputable def szWord (m : Wo) : Int → Int := fun l => nx (famInt64S.s m.1 l) (fun l => nx (famInt64S.s m.2 l) (fun l => l))
def fitWord (m : Wo) : Prop := famInt64S.fit m.1 ∧ famInt64S.fit m.2
noncomputable def tWord (m : Wo) : Wo := (famInt64S.t m.1, famInt64S.t m.2)
noncomputable def qWord (a b : Wo) : Bool := (famInt64S.q a.1 b.1 && famInt64S.q a.2 b.2)
theorem szWord_in (m : Wo) (l : Int) (h1 : 0 ≤ l) (h2 : l ≤ 1048576) : -1 ≤ szWord m l ∧ szWord m l ≤ l := by
  refine in_tr (Int.le_refl l) (nx_in (famInt64S.s_in m.1 l h1 (by omega)) h1 (by omega) fun y0 a0 b0 => ?_)
  refine in_tr b0 (nx_in (famInt64S.s_in m.2 y0 a0 (by omega)) a0 (by omega) fun y1 a1 b1 => ?_)
  exact ⟨by omega, b1⟩
theorem szWord_fit (m : Wo) (l : Int) (h2 : l ≤ 1048576) (h1 : 0 ≤ l) (h : 0 ≤ szWord m l) : fitWord m := by
  obtain ⟨p0, h⟩ := nx_fit h
  have e0 := famInt64S.s_fit m.1 l (by omega) h1 p0
  have b0 := famInt64S.s_in m.1 l h1 (by omega)
  obtain ⟨p1, h⟩ := nx_fit h
  have e1 := famInt64S.s_fit m.2 _ (by omega) p0 p1
  have b1 := famInt64S.s_in m.2 (famInt64S.s m.1 l) p0 (by omega)
  exact ⟨e0, e1⟩
theorem af48 (m : Wo) (l : Int) (h1 : 0 ≤ l) (h2 : l ≤ 1048576) : AF Try.prog 48 [eWo m, eI l] (.own (eI (szWord m l))) := by
  refine af_of_res res48 mixed rfl fun _ => ?_
  simp +contextual -implicitDefEqProofs only [rc48, eWo, eS, go_sem, eI, eB, ↓reduceIte, Nat.reduceEqDiff, Nat.reduceAdd, Nat.reduceLeDiff, Nat.reduceMul, Nat.reduceBEq, Nat.reduceBneDiff, Nat.reduceLT, Nat.reduceSub, Bool.false_eq_true, List.cons_append, List.nil_append]
  refine callQ_self ?_ (famInt64S.afS m.1 l (by omega) (by omega)) ?_
  · exact rfl
  simp +contextual -implicitDefEqProofs only [eWo, eS, go_sem, eI, eB, ↓reduceIte, Nat.reduceEqDiff, Nat.reduceAdd, Nat.reduceLeDiff, Nat.reduceMul, Nat.reduceBEq, Nat.reduceBneDiff, Nat.reduceLT, Nat.reduceSub, Bool.false_eq_true, List.cons_append, List.nil_append]
  have b0 := famInt64S.s_in m.1 l (by omega) (by omega)
  refine ⟨fun h => D.Le.sc_eq (by simp only [szWord]; rw [nx_neg h]), fun g0 => ?_⟩
  refine callQ_self ?_ (famInt64S.afS m.2 (famInt64S.s m.1 l) (by omega) (by omega)) ?_
  · exact rfl
  simp +contextual -implicitDefEqProofs only [eWo, eS, go_sem, eI, eB, ↓reduceIte, Nat.reduceEqDiff, Nat.reduceAdd, Nat.reduceLeDiff, Nat.reduceMul, Nat.reduceBEq, Nat.reduceBneDiff, Nat.reduceLT, Nat.reduceSub, Bool.false_eq_true, List.cons_append, List.nil_append]
  have b1 := famInt64S.s_in m.2 (famInt64S.s m.1 l) (by omega) (by omega)
  refine ⟨fun h => D.Le.sc_eq (by simp only [szWord]; rw [nx_pos g0, nx_neg h]), fun g1 => ?_⟩
  exact D.Le.sc_eq (by simp only [szWord]; rw [nx_pos g0, nx_pos g1])
theorem af51 (m : Wo) (h : fitWord m) : AF Try.prog 51 [eWo m] (.own (eWo (tWord m))) := by
  refine af_of_res res51 mixed rfl fun _ => ?_
  simp +contextual -implicitDefEqProofs only [rc51, eWo, eS, tWord, famInt64S_t, go_sem, eI, eB, ↓reduceIte, Nat.reduceEqDiff, Nat.reduceAdd, Nat.reduceLeDiff, Nat.reduceMul, Nat.reduceBEq, Nat.reduceBneDiff, Nat.reduceLT, Nat.reduceSub, Bool.false_eq_true, List.cons_append, List.nil_append]
  refine callQ_self ?_ (famInt64S.afT m.1 h.1) ?_
  · exact rfl
  simp +contextual -implicitDefEqProofs only [eWo, eS, tWord, famInt64S_t, go_sem, eI, eB, ↓reduceIte, Nat.reduceEqDiff, Nat.reduceAdd, Nat.reduceLeDiff, Nat.reduceMul, Nat.reduceBEq, Nat.reduceBneDiff, Nat.reduceLT, Nat.reduceSub, Bool.false_eq_true, List.cons_append, List.nil_append]
  refine callQ_self ?_ (famInt64S.afT m.2 h.2) ?_
  · exact rfl
  simp +contextual -implicitDefEqProofs only [eWo, eS, tWord, famInt64S_t, go_sem, eI, eB, ↓reduceIte, Nat.reduceEqDiff, Nat.reduceAdd, Nat.reduceLeDiff, Nat.reduceMul, Nat.reduceBEq, Nat.reduceBneDiff, Nat.reduceLT, Nat.reduceSub, Bool.false_eq_true, List.cons_append, List.nil_append]
theorem af53 (a b : Wo) : AF Try.prog 53 [eWo a, eWo b] (.own (eB (qWord a b))) := by
  refine af_of_res res53 mixed rfl fun _ => ?_
  simp +contextual -implicitDefEqProofs only [rc53, qWord, bne, Bool.not_true, Bool.not_false, Bool.true_and, Bool.false_and, Bool.and_true, Bool.and_false, eWo, eS, go_sem, eI, eB, ↓reduceIte, Nat.reduceEqDiff, Nat.reduceAdd, Nat.reduceLeDiff, Nat.reduceMul, Nat.reduceBEq, Nat.reduceBneDiff, Nat.reduceLT, Nat.reduceSub, Bool.false_eq_true, List.cons_append, List.nil_append]
  refine callQ_self ?_ (famInt64S.afQ a.1 b.1) ?_
  · exact rfl
  cases e0 : famInt64S.q a.1 b.1
  · simp +contextual -implicitDefEqProofs only [qWord, bne, Bool.not_true, Bool.not_false, Bool.true_and, Bool.false_and, Bool.and_true, Bool.and_false, eWo, eS, e0, go_sem, eI, eB, ↓reduceIte, Nat.reduceEqDiff, Nat.reduceAdd, Nat.reduceLeDiff, Nat.reduceMul, Nat.reduceBEq, Nat.reduceBneDiff, Nat.reduceLT, Nat.reduceSub, Bool.false_eq_true, List.cons_append, List.nil_append]
  simp +contextual -implicitDefEqProofs only [qWord, bne, Bool.not_true, Bool.not_false, Bool.true_and, Bool.false_and, Bool.and_true, Bool.and_false, eWo, eS, e0, go_sem, eI, eB, ↓reduceIte, Nat.reduceEqDiff, Nat.reduceAdd, Nat.reduceLeDiff, Nat.reduceMul, Nat.reduceBEq, Nat.reduceBneDiff, Nat.reduceLT, Nat.reduceSub, Bool.false_eq_true, List.cons_append, List.nil_append]
  refine callQ_self ?_ (famInt64S.afQ a.2 b.2) ?_
  · exact rfl
  cases e1 : famInt64S.q a.2 b.2
  · simp +contextual -implicitDefEqProofs only [qWord, bne, Bool.not_true, Bool.not_false, Bool.true_and, Bool.false_and, Bool.and_true, Bool.and_false, eWo, eS, e0, e1, go_sem, eI, eB, ↓reduceIte, Nat.reduceEqDiff, Nat.reduceAdd, Nat.reduceLeDiff, Nat.reduceMul, Nat.reduceBEq, Nat.reduceBneDiff, Nat.reduceLT, Nat.reduceSub, Bool.false_eq_true, List.cons_append, List.nil_append]
  · simp +contextual -implicitDefEqProofs only [qWord, bne, Bool.not_true, Bool.not_false, Bool.true_and, Bool.false_and, Bool.and_true, Bool.and_false, eWo, eS, e0, e1, go_sem, eI, eB, ↓reduceIte, Nat.reduceEqDiff, Nat.reduceAdd, Nat.reduceLeDiff, Nat.reduceMul, Nat.reduceBEq, Nat.reduceBneDiff, Nat.reduceLT, Nat.reduceSub, Bool.false_eq_true, List.cons_append, List.nil_append]
theorem qWord_refl (m : Wo) : qWord m m = true := by simp [qWord, famInt64S.q_refl, famInt64S.q_refl]
noncomputable def famWord : Fam Try.prog eWo 48 51 53 := ⟨szWord, tWord, qWord, fitWord, szWord_in, szWord_fit, qWord_refl, af48, af51, af53⟩
theorem famWord_t (x) : famWord.t x = tWord x := rfl
noncomputable def famBoolS : Fam Try.prog (eS 1 eB) 169 172 182 := famP mixed encB noB ⟨rfl, rfl, rfl⟩ (by omega) res169 res172 (eqL fun x y => x == y) (fun _ => eqL_refl fun _ _ => by simp) fun a b => af_eqB mixed res182 a b
theorem famBoolS_t (x) : famBoolS.t x = (some false, x.2) := rfl
noncomputable def famBoolSS : Fam Try.prog (eS 1 (eS 1 eB)) 85 90 100 := famC mixed famBoolS (encS eB 1) ⟨rfl, rfl, rfl⟩ (by omega) res85 res90 res100
theorem famBoolSS_t (x) : famBoolSS.t x = (some false, x.2.map famBoolS.t) := rfl
noncomputable def famBoolSSS : Fam Try.prog (eS 1 (eS 1 (eS 1 eB))) 86 91 101 := famC mixed famBoolSS (encS (eS 1 eB) 1) ⟨rfl, rfl, rfl⟩ (by omega) res86 res91 res101
theorem famBoolSSS_t (x) : famBoolSSS.t x = (some false, x.2.map famBoolSS.t) := rfl
noncomputable def szModel (m : Mo) : Int → Int := fun l => nx (famBoolSS.s m.2.2.1 l) (fun l => nx (famBoolSSS.s m.2.2.2 l) (fun l => l))
def fitModel (m : Mo) : Prop := famBoolSS.fit m.2.2.1 ∧ famBoolSSS.fit m.2.2.2
noncomputable def tModel (m : Mo) : Mo := (m.1, m.2.1, famBoolSS.t m.2.2.1, famBoolSSS.t m.2.2.2)
noncomputable def qModel (a b : Mo) : Bool := (qG a.1 b.1 && ((a.2.1 == b.2.1) && (famBoolSS.q a.2.2.1 b.2.2.1 && famBoolSSS.q a.2.2.2 b.2.2.2)))
theorem szModel_in (m : Mo) (l : Int) (h1 : 0 ≤ l) (h2 : l ≤ 1048576) : -1 ≤ szModel m l ∧ szModel m l ≤ l := by
  refine in_tr (Int.le_refl l) (nx_in (famBoolSS.s_in m.2.2.1 l h1 (by omega)) h1 (by omega) fun y0 a0 b0 => ?_)
  refine in_tr b0 (nx_in (famBoolSSS.s_in m.2.2.2 y0 a0 (by omega)) a0 (by omega) fun y1 a1 b1 => ?_)
  exact ⟨by omega, b1⟩
theorem szModel_fit (m : Mo) (l : Int) (h2 : l ≤ 1048576) (h1 : 0 ≤ l) (h : 0 ≤ szModel m l) : fitModel m := by
  obtain ⟨p0, h⟩ := nx_fit h
  have e0 := famBoolSS.s_fit m.2.2.1 l (by omega) h1 p0
  have b0 := famBoolSS.s_in m.2.2.1 l h1 (by omega)
  obtain ⟨p1, h⟩ := nx_fit h
  have e1 := famBoolSSS.s_fit m.2.2.2 _ (by omega) p0 p1
  have b1 := famBoolSSS.s_in m.2.2.2 (famBoolSS.s m.2.2.1 l) p0 (by omega)
  exact ⟨e0, e1⟩
theorem af15 (m : Mo) (l : Int) (h1 : 0 ≤ l) (h2 : l ≤ 1048576) : AF Try.prog 15 [eM m, eI l] (.own (eI (szModel m l))) := by
  refine af_of_res res15 mixed rfl fun _ => ?_
  simp +contextual -implicitDefEqProofs only [rc15, eM, eG, eS, go_sem, eI, eB, ↓reduceIte, Nat.reduceEqDiff, Nat.reduceAdd, Nat.reduceLeDiff, Nat.reduceMul, Nat.reduceBEq, Nat.reduceBneDiff, Nat.reduceLT, Nat.reduceSub, Bool.false_eq_true, List.cons_append, List.nil_append]
  refine callQ_self ?_ (famBoolSS.afS m.2.2.1 l (by omega) (by omega)) ?_
  · exact rfl
  simp +contextual -implicitDefEqProofs only [eM, eG, eS, go_sem, eI, eB, ↓reduceIte, Nat.reduceEqDiff, Nat.reduceAdd, Nat.reduceLeDiff, Nat.reduceMul, Nat.reduceBEq, Nat.reduceBneDiff, Nat.reduceLT, Nat.reduceSub, Bool.false_eq_true, List.cons_append, List.nil_append]
  have b0 := famBoolSS.s_in m.2.2.1 l (by omega) (by omega)
  refine ⟨fun h => D.Le.sc_eq (by simp only [szModel]; rw [nx_neg h]), fun g0 => ?_⟩
  refine callQ_self ?_ (famBoolSSS.afS m.2.2.2 (famBoolSS.s m.2.2.1 l) (by omega) (by omega)) ?_
  · exact rfl
  simp +contextual -implicitDefEqProofs only [eM, eG, eS, go_sem, eI, eB, ↓reduceIte, Nat.reduceEqDiff, Nat.reduceAdd, Nat.reduceLeDiff, Nat.reduceMul, Nat.reduceBEq, Nat.reduceBneDiff, Nat.reduceLT, Nat.reduceSub, Bool.false_eq_true, List.cons_append, List.nil_append]
  have b1 := famBoolSSS.s_in m.2.2.2 (famBoolSS.s m.2.2.1 l) (by omega) (by omega)
  refine ⟨fun h => D.Le.sc_eq (by simp only [szModel]; rw [nx_pos g0, nx_neg h]), fun g1 => ?_⟩
  exact D.Le.sc_eq (by simp only [szModel]; rw [nx_pos g0, nx_pos g1])
theorem af18 (m : Mo) (h : fitModel m) : AF Try.prog 18 [eM m] (.own (eM (tModel m))) := by
  refine af_of_res res18 mixed rfl fun _ => ?_
  simp +contextual -implicitDefEqProofs only [rc18, eM, eG, eS, tModel, famBoolSS_t, famBoolSSS_t, go_sem, eI, eB, ↓reduceIte, Nat.reduceEqDiff, Nat.reduceAdd, Nat.reduceLeDiff, Nat.reduceMul, Nat.reduceBEq, Nat.reduceBneDiff, Nat.reduceLT, Nat.reduceSub, Bool.false_eq_true, List.cons_append, List.nil_append]
  refine callQ_self ?_ (af50 m.1) ?_
  · exact rfl
  simp +contextual -implicitDefEqProofs only [eM, eG, eS, tModel, famBoolSS_t, famBoolSSS_t, go_sem, eI, eB, ↓reduceIte, Nat.reduceEqDiff, Nat.reduceAdd, Nat.reduceLeDiff, Nat.reduceMul, Nat.reduceBEq, Nat.reduceBneDiff, Nat.reduceLT, Nat.reduceSub, Bool.false_eq_true, List.cons_append, List.nil_append]
  refine callQ_self ?_ (famBoolSS.afT m.2.2.1 h.1) ?_
  · exact rfl
  simp +contextual -implicitDefEqProofs only [eM, eG, eS, tModel, famBoolSS_t, famBoolSSS_t, go_sem, eI, eB, ↓reduceIte, Nat.reduceEqDiff, Nat.reduceAdd, Nat.reduceLeDiff, Nat.reduceMul, Nat.reduceBEq, Nat.reduceBneDiff, Nat.reduceLT, Nat.reduceSub, Bool.false_eq_true, List.cons_append, List.nil_append]
  refine callQ_self ?_ (famBoolSSS.afT m.2.2.2 h.2) ?_
  · exact rfl
  simp +contextual -implicitDefEqProofs only [eM, eG, eS, tModel, famBoolSS_t, famBoolSSS_t, go_sem, eI, eB, ↓reduceIte, Nat.reduceEqDiff, Nat.reduceAdd, Nat.reduceLeDiff, Nat.reduceMul, Nat.reduceBEq, Nat.reduceBneDiff, Nat.reduceLT, Nat.reduceSub, Bool.false_eq_true, List.cons_append, List.nil_append]
theorem af23 (a b : Mo) : AF Try.prog 23 [eM a, eM b] (.own (eB (qModel a b))) := by
  refine af_of_res res23 mixed rfl fun _ => ?_
  simp +contextual -implicitDefEqProofs only [rc23, qModel, bne, Bool.not_true, Bool.not_false, Bool.true_and, Bool.false_and, Bool.and_true, Bool.and_false, eM, eG, eS, go_sem, eI, eB, ↓reduceIte, Nat.reduceEqDiff, Nat.reduceAdd, Nat.reduceLeDiff, Nat.reduceMul, Nat.reduceBEq, Nat.reduceBneDiff, Nat.reduceLT, Nat.reduceSub, Bool.false_eq_true, List.cons_append, List.nil_append]
  refine callQ_self ?_ (af99 a.1 b.1) ?_
  · exact rfl
  cases e0 : qG a.1 b.1
  · simp +contextual -implicitDefEqProofs only [qModel, bne, Bool.not_true, Bool.not_false, Bool.true_and, Bool.false_and, Bool.and_true, Bool.and_false, eM, eG, eS, e0, go_sem, eI, eB, ↓reduceIte, Nat.reduceEqDiff, Nat.reduceAdd, Nat.reduceLeDiff, Nat.reduceMul, Nat.reduceBEq, Nat.reduceBneDiff, Nat.reduceLT, Nat.reduceSub, Bool.false_eq_true, List.cons_append, List.nil_append]
  cases e1 : (a.2.1 == b.2.1)
  · simp +contextual -implicitDefEqProofs only [qModel, bne, Bool.not_true, Bool.not_false, Bool.true_and, Bool.false_and, Bool.and_true, Bool.and_false, eM, eG, eS, e0, e1, go_sem, eI, eB, ↓reduceIte, Nat.reduceEqDiff, Nat.reduceAdd, Nat.reduceLeDiff, Nat.reduceMul, Nat.reduceBEq, Nat.reduceBneDiff, Nat.reduceLT, Nat.reduceSub, Bool.false_eq_true, List.cons_append, List.nil_append]
  simp +contextual -implicitDefEqProofs only [qModel, bne, Bool.not_true, Bool.not_false, Bool.true_and, Bool.false_and, Bool.and_true, Bool.and_false, eM, eG, eS, e0, e1, go_sem, eI, eB, ↓reduceIte, Nat.reduceEqDiff, Nat.reduceAdd, Nat.reduceLeDiff, Nat.reduceMul, Nat.reduceBEq, Nat.reduceBneDiff, Nat.reduceLT, Nat.reduceSub, Bool.false_eq_true, List.cons_append, List.nil_append]
  refine callQ_self ?_ (famBoolSS.afQ a.2.2.1 b.2.2.1) ?_
  · exact rfl
  cases e2 : famBoolSS.q a.2.2.1 b.2.2.1
  · simp +contextual -implicitDefEqProofs only [qModel, bne, Bool.not_true, Bool.not_false, Bool.true_and, Bool.false_and, Bool.and_true, Bool.and_false, eM, eG, eS, e0, e1, e2, go_sem, eI, eB, ↓reduceIte, Nat.reduceEqDiff, Nat.reduceAdd, Nat.reduceLeDiff, Nat.reduceMul, Nat.reduceBEq, Nat.reduceBneDiff, Nat.reduceLT, Nat.reduceSub, Bool.false_eq_true, List.cons_append, List.nil_append]
  simp +contextual -implicitDefEqProofs only [qModel, bne, Bool.not_true, Bool.not_false, Bool.true_and, Bool.false_and, Bool.and_true, Bool.and_false, eM, eG, eS, e0, e1, e2, go_sem, eI, eB, ↓reduceIte, Nat.reduceEqDiff, Nat.reduceAdd, Nat.reduceLeDiff, Nat.reduceMul, Nat.reduceBEq, Nat.reduceBneDiff, Nat.reduceLT, Nat.reduceSub, Bool.false_eq_true, List.cons_append, List.nil_append]
  refine callQ_self ?_ (famBoolSSS.afQ a.2.2.2 b.2.2.2) ?_
  · exact rfl
  cases e3 : famBoolSSS.q a.2.2.2 b.2.2.2
  · simp +contextual -implicitDefEqProofs only [qModel, bne, Bool.not_true, Bool.not_false, Bool.true_and, Bool.false_and, Bool.and_true, Bool.and_false, eM, eG, eS, e0, e1, e2, e3, go_sem, eI, eB, ↓reduceIte, Nat.reduceEqDiff, Nat.reduceAdd, Nat.reduceLeDiff, Nat.reduceMul, Nat.reduceBEq, Nat.reduceBneDiff, Nat.reduceLT, Nat.reduceSub, Bool.false_eq_true, List.cons_append, List.nil_append]
  · simp +contextual -implicitDefEqProofs only [qModel, bne, Bool.not_true, Bool.not_false, Bool.true_and, Bool.false_and, Bool.and_true, Bool.and_false, eM, eG, eS, e0, e1, e2, e3, go_sem, eI, eB, ↓reduceIte, Nat.reduceEqDiff, Nat.reduceAdd, Nat.reduceLeDiff, Nat.reduceMul, Nat.reduceBEq, Nat.reduceBneDiff, Nat.reduceLT, Nat.reduceSub, Bool.false_eq_true, List.cons_append, List.nil_append]
theorem qModel_refl (m : Mo) : qModel m m = true := by simp [qModel, qG, famBoolSS.q_refl, famBoolSSS.q_refl]
noncomputable def famModel : Fam Try.prog eM 15 18 23 := ⟨szModel, tModel, qModel, fitModel, szModel_in, szModel_fit, qModel_refl, af15, af18, af23⟩
theorem famModel_t (x) : famModel.t x = tModel x := rfl
noncomputable def hfBoolS : HFam Try.prog (eS 1 eB) famBoolS.s famBoolS.t 183 205 := hfB mixed (fun _ _ => rfl) (fun _ => rfl) res183 res205
noncomputable def hfBoolSS : HFam Try.prog (eS 1 (eS 1 eB)) famBoolSS.s famBoolSS.t 103 125 := hfC mixed famBoolS (encS eB 1) hfBoolS (fun _ => rfl) res103 res125
noncomputable def hfBoolSSS : HFam Try.prog (eS 1 (eS 1 (eS 1 eB))) famBoolSSS.s famBoolSSS.t 104 126 := hfC mixed famBoolSS (encS (eS 1 eB) 1) hfBoolSS (fun _ => rfl) res104 res126
noncomputable def mrkModel (m : Mo) (k : Int) : Mo := (m.1, m.2.1, hfBoolSS.mrk m.2.2.1 k, hfBoolSSS.mrk m.2.2.2 (k + hfBoolSS.cnt m.2.2.1))
noncomputable def cntModel (m : Mo) : Nat := hfBoolSS.cnt m.2.2.1 + hfBoolSSS.cnt m.2.2.2
theorem mk_Model (m : Mo) (k : Int) (h0 : 0 ≤ k) (h1 : k + cntModel m ≤ maxK) : AFM Try.prog 25 (eM m) k (eM (mrkModel m k)) (k + cntModel m) := by
  unfold cntModel at h1 ⊢
  refine afm_ag res25 (by omega) rfl fun hbd => ?_
  simp +contextual -implicitDefEqProofs only [rc25, eM, eG, eS, eI, D.at, D.sub, D.put, D.cells, D.size, D.sizeL, D.isAg, go_sem, eB, ↓reduceIte, Nat.reduceEqDiff, Nat.reduceAdd, Nat.reduceLeDiff, Nat.reduceMul, Nat.reduceBEq, Nat.reduceBneDiff, Nat.reduceLT, Nat.reduceSub, Bool.false_eq_true, List.cons_append, List.nil_append, Int.ofNat_lt, List.length_map, Int.natCast_nonneg]
  refine mMcl_self (e' := eS 1 (eS 1 eB) (hfBoolSS.mrk m.2.2.1 k)) (n' := k + hfBoolSS.cnt m.2.2.1) ?_ rfl (.inr rfl) ?_
  · exact hfBoolSS.afM m.2.2.1 k (by omega) (by omega)
  simp +contextual -implicitDefEqProofs only [eM, eG, eS, eI, D.at, D.sub, D.put, D.cells, D.size, D.sizeL, D.isAg, mrkModel, go_sem, eB, ↓reduceIte, Nat.reduceEqDiff, Nat.reduceAdd, Nat.reduceLeDiff, Nat.reduceMul, Nat.reduceBEq, Nat.reduceBneDiff, Nat.reduceLT, Nat.reduceSub, Bool.false_eq_true, List.cons_append, List.nil_append, Int.ofNat_lt, List.length_map, Int.natCast_nonneg]
  refine mMcl_self (e' := eS 1 (eS 1 (eS 1 eB)) (hfBoolSSS.mrk m.2.2.2 (k + hfBoolSS.cnt m.2.2.1))) (n' := k + hfBoolSS.cnt m.2.2.1 + hfBoolSSS.cnt m.2.2.2) ?_ rfl (.inr rfl) ?_
  · exact hfBoolSSS.afM m.2.2.2 (k + hfBoolSS.cnt m.2.2.1) (by omega) (by omega)
  simp +contextual -implicitDefEqProofs only [eM, eG, eS, eI, D.at, D.sub, D.put, D.cells, D.size, D.sizeL, D.isAg, mrkModel, go_sem, eB, ↓reduceIte, Nat.reduceEqDiff, Nat.reduceAdd, Nat.reduceLeDiff, Nat.reduceMul, Nat.reduceBEq, Nat.reduceBneDiff, Nat.reduceLT, Nat.reduceSub, Bool.false_eq_true, List.cons_append, List.nil_append, Int.ofNat_lt, List.length_map, Int.natCast_nonneg]
  try simp only [Int.natCast_add, Int.add_assoc]
  try trivial
theorem hd_Model (m : Mo) (k : Int) (h0 : 0 ≤ k) (h1 : k + cntModel m ≤ maxK) : AF Try.prog 47 [eM (mrkModel m k), eI k] (.own (eI (k + cntModel m))) := by
  unfold cntModel at h1 ⊢
  unfold maxK at h1
  refine af_of_res res47 mixed rfl fun hbd => ?_
  simp +contextual -implicitDefEqProofs only [rc47, eM, eG, eS, mrkModel, eI, D.at, D.sub, D.put, D.cells, D.size, D.sizeL, D.isAg, go_sem, eB, ↓reduceIte, Nat.reduceEqDiff, Nat.reduceAdd, Nat.reduceLeDiff, Nat.reduceMul, Nat.reduceBEq, Nat.reduceBneDiff, Nat.reduceLT, Nat.reduceSub, Bool.false_eq_true, List.cons_append, List.nil_append, Int.ofNat_lt, List.length_map, Int.natCast_nonneg]
  refine callQ_self (ds := [eS 1 (eS 1 eB) (hfBoolSS.mrk m.2.2.1 k), eI k]) (by rfl) (hfBoolSS.afH m.2.2.1 k (by omega) (by unfold maxK; omega)) ?_
  have n0 : ¬ (k + hfBoolSS.cnt m.2.2.1 < 0) := by omega
  simp +contextual -implicitDefEqProofs only [n0, eM, eG, eS, mrkModel, eI, D.at, D.sub, D.put, D.cells, D.size, D.sizeL, D.isAg, go_sem, eB, ↓reduceIte, Nat.reduceEqDiff, Nat.reduceAdd, Nat.reduceLeDiff, Nat.reduceMul, Nat.reduceBEq, Nat.reduceBneDiff, Nat.reduceLT, Nat.reduceSub, Bool.false_eq_true, List.cons_append, List.nil_append, Int.ofNat_lt, List.length_map, Int.natCast_nonneg]
  refine callQ_self (ds := [eS 1 (eS 1 (eS 1 eB)) (hfBoolSSS.mrk m.2.2.2 (k + hfBoolSS.cnt m.2.2.1)), eI (k + hfBoolSS.cnt m.2.2.1)]) (by rfl) (hfBoolSSS.afH m.2.2.2 (k + hfBoolSS.cnt m.2.2.1) (by omega) (by unfold maxK; omega)) ?_
  have n1 : ¬ (k + hfBoolSS.cnt m.2.2.1 + hfBoolSSS.cnt m.2.2.2 < 0) := by omega
  simp +contextual -implicitDefEqProofs only [n1, eM, eG, eS, mrkModel, eI, D.at, D.sub, D.put, D.cells, D.size, D.sizeL, D.isAg, go_sem, eB, ↓reduceIte, Nat.reduceEqDiff, Nat.reduceAdd, Nat.reduceLeDiff, Nat.reduceMul, Nat.reduceBEq, Nat.reduceBneDiff, Nat.reduceLT, Nat.reduceSub, Bool.false_eq_true, List.cons_append, List.nil_append, Int.ofNat_lt, List.length_map, Int.natCast_nonneg]
  try exact D.Le.sc_eq (by simp only [Int.natCast_add, Int.add_assoc])
noncomputable def hfModel : HFam Try.prog eM szModel tModel 25 47 where
  mrk := mrkModel
  cnt := cntModel
  cnt_s m l h1 h2 h := by
    unfold szModel at h ⊢
    unfold cntModel
    obtain ⟨p0, h⟩ := nx_fit h
    rw [nx_pos (by omega)]
    have b0 := famBoolSS.s_in m.2.2.1 l (by omega) (by omega)
    have c0 := hfBoolSS.cnt_s m.2.2.1 l (by omega) (by omega) p0
    obtain ⟨p1, h⟩ := nx_fit h
    rw [nx_pos (by omega)]
    have b1 := famBoolSSS.s_in m.2.2.2 (famBoolSS.s m.2.2.1 l) (by omega) (by omega)
    have c1 := hfBoolSSS.cnt_s m.2.2.2 (famBoolSS.s m.2.2.1 l) (by omega) (by omega) p1
    push_cast
    omega
  cnt_t m := by unfold cntModel tModel; simp only [hfBoolSS.cnt_t, hfBoolSSS.cnt_t]
  afM := mk_Model
  afH := hd_Model
noncomputable def hfInt64S : MFam Try.prog (eS 1 eI) famInt64S.s famInt64S.t 27 := mfI (fun _ _ => rfl) (fun _ => rfl) res27
noncomputable def mrkWord (m : Wo) (k : Int) : Wo := (hfInt64S.mrk m.1 k, hfInt64S.mrk m.2 (k + hfInt64S.cnt m.1))
noncomputable def cntWord (m : Wo) : Nat := hfInt64S.cnt m.1 + hfInt64S.cnt m.2
theorem mk_Word (m : Wo) (k : Int) (h0 : 0 ≤ k) (h1 : k + cntWord m ≤ maxK) : AFM Try.prog 54 (eWo m) k (eWo (mrkWord m k)) (k + cntWord m) := by
  unfold cntWord at h1 ⊢
  refine afm_ag res54 (by omega) rfl fun hbd => ?_
  simp +contextual -implicitDefEqProofs only [rc54, eWo, eS, eI, D.at, D.sub, D.put, D.cells, D.size, D.sizeL, D.isAg, go_sem, eB, ↓reduceIte, Nat.reduceEqDiff, Nat.reduceAdd, Nat.reduceLeDiff, Nat.reduceMul, Nat.reduceBEq, Nat.reduceBneDiff, Nat.reduceLT, Nat.reduceSub, Bool.false_eq_true, List.cons_append, List.nil_append, Int.ofNat_lt, List.length_map, Int.natCast_nonneg]
  refine mMcl_self (e' := eS 1 eI (hfInt64S.mrk m.1 k)) (n' := k + hfInt64S.cnt m.1) ?_ rfl (.inr rfl) ?_
  · exact hfInt64S.afM m.1 k (by omega) (by omega)
  simp +contextual -implicitDefEqProofs only [eWo, eS, eI, D.at, D.sub, D.put, D.cells, D.size, D.sizeL, D.isAg, mrkWord, go_sem, eB, ↓reduceIte, Nat.reduceEqDiff, Nat.reduceAdd, Nat.reduceLeDiff, Nat.reduceMul, Nat.reduceBEq, Nat.reduceBneDiff, Nat.reduceLT, Nat.reduceSub, Bool.false_eq_true, List.cons_append, List.nil_append, Int.ofNat_lt, List.length_map, Int.natCast_nonneg]
  refine mMcl_self (e' := eS 1 eI (hfInt64S.mrk m.2 (k + hfInt64S.cnt m.1))) (n' := k + hfInt64S.cnt m.1 + hfInt64S.cnt m.2) ?_ rfl (.inr rfl) ?_
  · exact hfInt64S.afM m.2 (k + hfInt64S.cnt m.1) (by omega) (by omega)
  simp +contextual -implicitDefEqProofs only [eWo, eS, eI, D.at, D.sub, D.put, D.cells, D.size, D.sizeL, D.isAg, mrkWord, go_sem, eB, ↓reduceIte, Nat.reduceEqDiff, Nat.reduceAdd, Nat.reduceLeDiff, Nat.reduceMul, Nat.reduceBEq, Nat.reduceBneDiff, Nat.reduceLT, Nat.reduceSub, Bool.false_eq_true, List.cons_append, List.nil_append, Int.ofNat_lt, List.length_map, Int.natCast_nonneg]
  try simp only [Int.natCast_add, Int.add_assoc]
  try trivial
noncomputable def hfWord : MFam Try.prog eWo szWord tWord 54 where
  mrk := mrkWord
  cnt := cntWord
  cnt_s m l h1 h2 h := by
    unfold szWord at h ⊢
    unfold cntWord
    obtain ⟨p0, h⟩ := nx_fit h
    rw [nx_pos (by omega)]
    have b0 := famInt64S.s_in m.1 l (by omega) (by omega)
    have c0 := hfInt64S.cnt_s m.1 l (by omega) (by omega) p0
    obtain ⟨p1, h⟩ := nx_fit h
    rw [nx_pos (by omega)]
    have b1 := famInt64S.s_in m.2 (famInt64S.s m.1 l) (by omega) (by omega)
    have c1 := hfInt64S.cnt_s m.2 (famInt64S.s m.1 l) (by omega) (by omega) p1
    push_cast
    omega
  cnt_t m := by unfold cntWord tWord; simp only [hfInt64S.cnt_t]
  afM := mk_Word

theorem word_cnt (g : Int × Int) (w : Wo) : hfModel.cnt (wordR g w).1 ≤ 2000000000 := by
  unfold wordR
  split
  · next ho =>
    split
    · exact Nat.zero_le _
    · next h8 =>
      have hW := wm_ok ho.1 ho.2 h8
      have t1 := hW.t1
      have a1 := hW.a1
      have n8 := hW.n8
      generalize w.1.2.length = n at n8
      have r1 : cntL (fun x : SL Bool => x.2.length) ((rngL g.1).map fun i => ((some false, tabL n (wTestF w i)) : SL Bool)) ≤ _ := cntL_bd (c := 8) (fun x hx => by obtain ⟨r, hr, rfl⟩ := List.mem_map.1 hx; simp only [tabL_len]; omega)
      have r2 : cntL (fun x : SL (SL Bool) => cntL (fun x : SL Bool => x.2.length) x.2) ((rngL g.2).map fun a => rTab n (wRel w a)) ≤ _ := cntL_bd (c := 64) (fun x hx => by
        obtain ⟨a, _, rfl⟩ := List.mem_map.1 hx
        have sq : Sq n (rTab n (wRel w a)) := rTab_sq
        have := cntL_bd (cnt := fun x : SL Bool => x.2.length) (l := (rTab n (wRel w a)).2) (c := 8) (fun x hx => by have := sq.row x hx; omega)
        have hl := sq.len
        omega)
      simp only [List.length_map, rngL_len] at r1 r2
      show cntL (fun x : SL Bool => x.2.length) ((rngL g.1).map fun i => ((some false, tabL n (wTestF w i)) : SL Bool)) + cntL (fun x : SL (SL Bool) => cntL (fun x : SL Bool => x.2.length) x.2) ((rngL g.2).map fun a => rTab n (wRel w a)) ≤ _
      omega
  · exact Nat.zero_le _
theorem law (g : Int × Int) (e : Wo) : AF Try.prog 8 [eG g, eWo e] (.own (eB true)) := by
  refine af_of_res res8 mixed rfl fun hbd => ?_
  simp +contextual -implicitDefEqProofs only [rc8, eWo, eM, eG, eS, eI, eB, famWord_t, tWord, famInt64S_t, famModel_t, tModel, famBoolSS_t, famBoolSSS_t, bne_self_eq_false, go_sem, ↓reduceIte, Nat.reduceEqDiff, Nat.reduceAdd, Nat.reduceLeDiff, Nat.reduceMul, Nat.reduceBEq, Nat.reduceBneDiff, Nat.reduceLT, Nat.reduceSub, Bool.false_eq_true, List.cons_append, List.nil_append]
  refine callQ_self (ds := [eWo e, eI 1048576]) ?_ (famWord.afS e 1048576 (by omega) (by omega)) ?_
  · simp only [eWo, eM, eG, eS, eI, eB, famWord_t, tWord, famInt64S_t, famModel_t, tModel, famBoolSS_t, famBoolSSS_t, bne_self_eq_false]; exact rfl
  simp +contextual -implicitDefEqProofs only [eWo, eM, eG, eS, eI, eB, famWord_t, tWord, famInt64S_t, famModel_t, tModel, famBoolSS_t, famBoolSSS_t, bne_self_eq_false, go_sem, ↓reduceIte, Nat.reduceEqDiff, Nat.reduceAdd, Nat.reduceLeDiff, Nat.reduceMul, Nat.reduceBEq, Nat.reduceBneDiff, Nat.reduceLT, Nat.reduceSub, Bool.false_eq_true, List.cons_append, List.nil_append]
  have sb0 := famWord.s_in e 1048576 (by omega) (by omega)
  refine fun hs0 => ?_
  have hf0 := famWord.s_fit e 1048576 (by omega) (by omega) (by omega)
  refine callQ_self (ds := [eG g]) ?_ (af50 g) ?_
  · simp only [eWo, eM, eG, eS, eI, eB, famWord_t, tWord, famInt64S_t, famModel_t, tModel, famBoolSS_t, famBoolSSS_t, bne_self_eq_false]; exact rfl
  simp +contextual -implicitDefEqProofs only [eWo, eM, eG, eS, eI, eB, famWord_t, tWord, famInt64S_t, famModel_t, tModel, famBoolSS_t, famBoolSSS_t, bne_self_eq_false, go_sem, ↓reduceIte, Nat.reduceEqDiff, Nat.reduceAdd, Nat.reduceLeDiff, Nat.reduceMul, Nat.reduceBEq, Nat.reduceBneDiff, Nat.reduceLT, Nat.reduceSub, Bool.false_eq_true, List.cons_append, List.nil_append]
  refine callQ_self (ds := [eWo e]) ?_ (famWord.afT e hf0) ?_
  · simp only [eWo, eM, eG, eS, eI, eB, famWord_t, tWord, famInt64S_t, famModel_t, tModel, famBoolSS_t, famBoolSSS_t, bne_self_eq_false]; exact rfl
  simp +contextual -implicitDefEqProofs only [eWo, eM, eG, eS, eI, eB, famWord_t, tWord, famInt64S_t, famModel_t, tModel, famBoolSS_t, famBoolSSS_t, bne_self_eq_false, go_sem, ↓reduceIte, Nat.reduceEqDiff, Nat.reduceAdd, Nat.reduceLeDiff, Nat.reduceMul, Nat.reduceBEq, Nat.reduceBneDiff, Nat.reduceLT, Nat.reduceSub, Bool.false_eq_true, List.cons_append, List.nil_append]
  have hsp := af49 g (famWord.t e)
  have him := af52 g (famWord.t e)
  have hqM := fun x => famModel.afQ x x
  simp only [famModel.q_refl] at hqM
  have hqE := famWord.afQ (famWord.t e) (famWord.t e)
  rw [famWord.q_refl] at hqE
  have hcE : (hfWord.cnt (famWord.t e) : Int) ≤ 8388608 := by
    have h := hfWord.cnt_s e 1048576 (by omega) (by omega) (Int.not_lt.1 hs0)
    have h' : 0 ≤ szWord e 1048576 := Int.not_lt.1 hs0
    have e : hfWord.cnt (famWord.t e) = hfWord.cnt e := hfWord.cnt_t e
    rw [e]; omega
  have hc1 := word_cnt g (famWord.t e)
  generalize wordR g (famWord.t e) = r at hsp him hc1
  obtain ⟨r, k⟩ := r
  simp only at hsp him hc1
  have hME := hfWord.afM (famWord.t e) 1 (by omega) (by unfold maxK; omega)
  generalize hfWord.cnt (famWord.t e) = cE at hME hcE
  generalize hfWord.mrk (famWord.t e) 1 = mE at hME
  have hM1 := hfModel.afM r 1 (by omega) (by unfold maxK; omega)
  have hH1 := hfModel.afH r 1 (by omega) (by unfold maxK; omega)
  generalize hfModel.cnt r = cR at hM1 hH1 hc1
  generalize hfModel.mrk r 1 = mR at hM1 hH1
  have hk0 : ¬ (1 + (cE : Int) < 0) := by omega
  have hk1 : ¬ (1 + (cR : Int) < 0) := by omega
  refine callQ_self (ds := [eG g, eWo (famWord.t e)]) ?_ (hsp) ?_
  · simp only [eWo, eM, eG, eS, eI, eB, famWord_t, tWord, famInt64S_t, famModel_t, tModel, famBoolSS_t, famBoolSSS_t, bne_self_eq_false]; exact rfl
  simp +contextual -implicitDefEqProofs only [eWo, eM, eG, eS, eI, eB, famWord_t, tWord, famInt64S_t, famModel_t, tModel, famBoolSS_t, famBoolSSS_t, bne_self_eq_false, go_sem, ↓reduceIte, Nat.reduceEqDiff, Nat.reduceAdd, Nat.reduceLeDiff, Nat.reduceMul, Nat.reduceBEq, Nat.reduceBneDiff, Nat.reduceLT, Nat.reduceSub, Bool.false_eq_true, List.cons_append, List.nil_append]
  refine callQ_self (ds := [eWo e]) ?_ (famWord.afT e hf0) ?_
  · simp only [eWo, eM, eG, eS, eI, eB, famWord_t, tWord, famInt64S_t, famModel_t, tModel, famBoolSS_t, famBoolSSS_t, bne_self_eq_false]; exact rfl
  simp +contextual -implicitDefEqProofs only [eWo, eM, eG, eS, eI, eB, famWord_t, tWord, famInt64S_t, famModel_t, tModel, famBoolSS_t, famBoolSSS_t, bne_self_eq_false, go_sem, ↓reduceIte, Nat.reduceEqDiff, Nat.reduceAdd, Nat.reduceLeDiff, Nat.reduceMul, Nat.reduceBEq, Nat.reduceBneDiff, Nat.reduceLT, Nat.reduceSub, Bool.false_eq_true, List.cons_append, List.nil_append]
  refine callQ_self (ds := [eG g]) ?_ (af50 g) ?_
  · simp only [eWo, eM, eG, eS, eI, eB, famWord_t, tWord, famInt64S_t, famModel_t, tModel, famBoolSS_t, famBoolSSS_t, bne_self_eq_false]; exact rfl
  simp +contextual -implicitDefEqProofs only [eWo, eM, eG, eS, eI, eB, famWord_t, tWord, famInt64S_t, famModel_t, tModel, famBoolSS_t, famBoolSSS_t, bne_self_eq_false, go_sem, ↓reduceIte, Nat.reduceEqDiff, Nat.reduceAdd, Nat.reduceLeDiff, Nat.reduceMul, Nat.reduceBEq, Nat.reduceBneDiff, Nat.reduceLT, Nat.reduceSub, Bool.false_eq_true, List.cons_append, List.nil_append]
  refine callQ_self (ds := [eG g, eWo (famWord.t e)]) ?_ (him) ?_
  · simp only [eWo, eM, eG, eS, eI, eB, famWord_t, tWord, famInt64S_t, famModel_t, tModel, famBoolSS_t, famBoolSSS_t, bne_self_eq_false]; exact rfl
  simp +contextual -implicitDefEqProofs only [eWo, eM, eG, eS, eI, eB, famWord_t, tWord, famInt64S_t, famModel_t, tModel, famBoolSS_t, famBoolSSS_t, bne_self_eq_false, go_sem, ↓reduceIte, Nat.reduceEqDiff, Nat.reduceAdd, Nat.reduceLeDiff, Nat.reduceMul, Nat.reduceBEq, Nat.reduceBneDiff, Nat.reduceLT, Nat.reduceSub, Bool.false_eq_true, List.cons_append, List.nil_append]
  refine callQ_self (ds := [eM r, eM r]) ?_ (hqM r) ?_
  · simp only [eWo, eM, eG, eS, eI, eB, famWord_t, tWord, famInt64S_t, famModel_t, tModel, famBoolSS_t, famBoolSSS_t, bne_self_eq_false]; exact rfl
  simp +contextual -implicitDefEqProofs only [Bool.not_true, eWo, eM, eG, eS, eI, eB, famWord_t, tWord, famInt64S_t, famModel_t, tModel, famBoolSS_t, famBoolSSS_t, bne_self_eq_false, go_sem, ↓reduceIte, Nat.reduceEqDiff, Nat.reduceAdd, Nat.reduceLeDiff, Nat.reduceMul, Nat.reduceBEq, Nat.reduceBneDiff, Nat.reduceLT, Nat.reduceSub, Bool.false_eq_true, List.cons_append, List.nil_append]
  refine callQ_self (ds := [eWo e]) ?_ (famWord.afT e hf0) ?_
  · simp only [eWo, eM, eG, eS, eI, eB, famWord_t, tWord, famInt64S_t, famModel_t, tModel, famBoolSS_t, famBoolSSS_t, bne_self_eq_false]; exact rfl
  simp +contextual -implicitDefEqProofs only [eWo, eM, eG, eS, eI, eB, famWord_t, tWord, famInt64S_t, famModel_t, tModel, famBoolSS_t, famBoolSSS_t, bne_self_eq_false, go_sem, ↓reduceIte, Nat.reduceEqDiff, Nat.reduceAdd, Nat.reduceLeDiff, Nat.reduceMul, Nat.reduceBEq, Nat.reduceBneDiff, Nat.reduceLT, Nat.reduceSub, Bool.false_eq_true, List.cons_append, List.nil_append]
  refine callQ_self (ds := [eWo (famWord.t e), eWo (famWord.t e)]) ?_ (hqE) ?_
  · simp only [eWo, eM, eG, eS, eI, eB, famWord_t, tWord, famInt64S_t, famModel_t, tModel, famBoolSS_t, famBoolSSS_t, bne_self_eq_false]; exact rfl
  simp +contextual -implicitDefEqProofs only [Bool.not_true, eWo, eM, eG, eS, eI, eB, famWord_t, tWord, famInt64S_t, famModel_t, tModel, famBoolSS_t, famBoolSSS_t, bne_self_eq_false, go_sem, ↓reduceIte, Nat.reduceEqDiff, Nat.reduceAdd, Nat.reduceLeDiff, Nat.reduceMul, Nat.reduceBEq, Nat.reduceBneDiff, Nat.reduceLT, Nat.reduceSub, Bool.false_eq_true, List.cons_append, List.nil_append]
  refine ⟨eWo mE, 1 + cE, hME, ⟨rfl, fun _ => rfl, rfl⟩, ?_⟩
  simp +contextual -implicitDefEqProofs only [hk0, D.put, D.cells, D.size, D.sizeL, D.isAg, D.at, D.sub, eWo, eM, eG, eS, eI, eB, famWord_t, tWord, famInt64S_t, famModel_t, tModel, famBoolSS_t, famBoolSSS_t, bne_self_eq_false, go_sem, ↓reduceIte, Nat.reduceEqDiff, Nat.reduceAdd, Nat.reduceLeDiff, Nat.reduceMul, Nat.reduceBEq, Nat.reduceBneDiff, Nat.reduceLT, Nat.reduceSub, Bool.false_eq_true, List.cons_append, List.nil_append]
  refine callQ_self (ds := [eM r, eM r]) ?_ (hqM r) ?_
  · simp only [eWo, eM, eG, eS, eI, eB, famWord_t, tWord, famInt64S_t, famModel_t, tModel, famBoolSS_t, famBoolSSS_t, bne_self_eq_false]; exact rfl
  simp +contextual -implicitDefEqProofs only [Bool.not_true, eWo, eM, eG, eS, eI, eB, famWord_t, tWord, famInt64S_t, famModel_t, tModel, famBoolSS_t, famBoolSSS_t, bne_self_eq_false, go_sem, ↓reduceIte, Nat.reduceEqDiff, Nat.reduceAdd, Nat.reduceLeDiff, Nat.reduceMul, Nat.reduceBEq, Nat.reduceBneDiff, Nat.reduceLT, Nat.reduceSub, Bool.false_eq_true, List.cons_append, List.nil_append]
  refine ⟨eM mR, 1 + cR, hM1, ⟨rfl, fun _ => rfl, rfl⟩, ?_⟩
  simp +contextual -implicitDefEqProofs only [D.put, D.cells, D.size, D.sizeL, D.isAg, D.at, D.sub, eWo, eM, eG, eS, eI, eB, famWord_t, tWord, famInt64S_t, famModel_t, tModel, famBoolSS_t, famBoolSSS_t, bne_self_eq_false, go_sem, ↓reduceIte, Nat.reduceEqDiff, Nat.reduceAdd, Nat.reduceLeDiff, Nat.reduceMul, Nat.reduceBEq, Nat.reduceBneDiff, Nat.reduceLT, Nat.reduceSub, Bool.false_eq_true, List.cons_append, List.nil_append]
  refine callQ_self (ds := [eM mR, eI 1]) ?_ (hH1) ?_
  · simp only [eWo, eM, eG, eS, eI, eB, famWord_t, tWord, famInt64S_t, famModel_t, tModel, famBoolSS_t, famBoolSSS_t, bne_self_eq_false]; exact rfl
  simp +contextual -implicitDefEqProofs only [hk1, eWo, eM, eG, eS, eI, eB, famWord_t, tWord, famInt64S_t, famModel_t, tModel, famBoolSS_t, famBoolSSS_t, bne_self_eq_false, go_sem, ↓reduceIte, Nat.reduceEqDiff, Nat.reduceAdd, Nat.reduceLeDiff, Nat.reduceMul, Nat.reduceBEq, Nat.reduceBneDiff, Nat.reduceLT, Nat.reduceSub, Bool.false_eq_true, List.cons_append, List.nil_append]
  refine callQ_self (ds := [eG g]) ?_ (af50 g) ?_
  · simp only [eWo, eM, eG, eS, eI, eB, famWord_t, tWord, famInt64S_t, famModel_t, tModel, famBoolSS_t, famBoolSSS_t, bne_self_eq_false]; exact rfl
  simp +contextual -implicitDefEqProofs only [eWo, eM, eG, eS, eI, eB, famWord_t, tWord, famInt64S_t, famModel_t, tModel, famBoolSS_t, famBoolSSS_t, bne_self_eq_false, go_sem, ↓reduceIte, Nat.reduceEqDiff, Nat.reduceAdd, Nat.reduceLeDiff, Nat.reduceMul, Nat.reduceBEq, Nat.reduceBneDiff, Nat.reduceLT, Nat.reduceSub, Bool.false_eq_true, List.cons_append, List.nil_append]
  refine callQ_self (ds := [eWo e]) ?_ (famWord.afT e hf0) ?_
  · simp only [eWo, eM, eG, eS, eI, eB, famWord_t, tWord, famInt64S_t, famModel_t, tModel, famBoolSS_t, famBoolSSS_t, bne_self_eq_false]; exact rfl
  simp +contextual -implicitDefEqProofs only [eWo, eM, eG, eS, eI, eB, famWord_t, tWord, famInt64S_t, famModel_t, tModel, famBoolSS_t, famBoolSSS_t, bne_self_eq_false, go_sem, ↓reduceIte, Nat.reduceEqDiff, Nat.reduceAdd, Nat.reduceLeDiff, Nat.reduceMul, Nat.reduceBEq, Nat.reduceBneDiff, Nat.reduceLT, Nat.reduceSub, Bool.false_eq_true, List.cons_append, List.nil_append]
  refine callQ_self (ds := [eG g, eWo (famWord.t e)]) ?_ (him) ?_
  · simp only [eWo, eM, eG, eS, eI, eB, famWord_t, tWord, famInt64S_t, famModel_t, tModel, famBoolSS_t, famBoolSSS_t, bne_self_eq_false]; exact rfl
  simp +contextual -implicitDefEqProofs only [eWo, eM, eG, eS, eI, eB, famWord_t, tWord, famInt64S_t, famModel_t, tModel, famBoolSS_t, famBoolSSS_t, bne_self_eq_false, go_sem, ↓reduceIte, Nat.reduceEqDiff, Nat.reduceAdd, Nat.reduceLeDiff, Nat.reduceMul, Nat.reduceBEq, Nat.reduceBneDiff, Nat.reduceLT, Nat.reduceSub, Bool.false_eq_true, List.cons_append, List.nil_append]
  refine callQ_self (ds := [eM r, eM r]) ?_ (hqM r) ?_
  · simp only [eWo, eM, eG, eS, eI, eB, famWord_t, tWord, famInt64S_t, famModel_t, tModel, famBoolSS_t, famBoolSSS_t, bne_self_eq_false]; exact rfl
  simp +contextual -implicitDefEqProofs only [Bool.not_true, eWo, eM, eG, eS, eI, eB, famWord_t, tWord, famInt64S_t, famModel_t, tModel, famBoolSS_t, famBoolSSS_t, bne_self_eq_false, go_sem, ↓reduceIte, Nat.reduceEqDiff, Nat.reduceAdd, Nat.reduceLeDiff, Nat.reduceMul, Nat.reduceBEq, Nat.reduceBneDiff, Nat.reduceLT, Nat.reduceSub, Bool.false_eq_true, List.cons_append, List.nil_append]
  refine callQ_self (ds := [eM mR, eI 1]) ?_ (hH1) ?_
  · simp only [eWo, eM, eG, eS, eI, eB, famWord_t, tWord, famInt64S_t, famModel_t, tModel, famBoolSS_t, famBoolSSS_t, bne_self_eq_false]; exact rfl
  simp +contextual -implicitDefEqProofs only [hk1, eWo, eM, eG, eS, eI, eB, famWord_t, tWord, famInt64S_t, famModel_t, tModel, famBoolSS_t, famBoolSSS_t, bne_self_eq_false, go_sem, ↓reduceIte, Nat.reduceEqDiff, Nat.reduceAdd, Nat.reduceLeDiff, Nat.reduceMul, Nat.reduceBEq, Nat.reduceBneDiff, Nat.reduceLT, Nat.reduceSub, Bool.false_eq_true, List.cons_append, List.nil_append]
end Go.Ax
