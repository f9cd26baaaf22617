/- Contracts of functions of the seat, proved over the engine. No condition. -/
import Derived.Test.YtcmcncenncobfaaDoorXxE
import Derived.Test.YtcmcncenncobfaaDoorXxA
import Derived.Test.YtcmcncenncobfaaDoorChecked
set_option linter.unusedSimpArgs false
set_option linter.unusedVariables false
set_option linter.unnecessarySimpa false
set_option linter.unusedSectionVars false
namespace Go.Ax
open Go.Proofs Go.Shelf
set_option linter.unusedSimpArgs false
theorem mixed : Tryd.prog.follows .mixedOrders = true := by kernel_rfl
set_option maxRecDepth 20000
def sbRen : Go.Shelf.Ren := ⟨fun | 156 => 51 | 165 => 70 | 166 => 29 | 169 => 33 | 240 => 48 | 241 => 82 | 276 => 67 | 277 => 89 | 129 => 85 | 173 => 49 | 246 => 68 | 283 => 78 | 284 => 79 | 285 => 80 | 286 => 81 | 317 => 84 | 318 => 86 | 319 => 87 | 320 => 88 | 337 => 90 | 338 => 91 | n => n, fun | 0 => 0 | 2 => 2 | 3 => 3 | 4 => 4 | 5 => 5 | 9 => 9 | 20 => 20 | 31 => 102 | 37 => 76 | 46 => 144 | 51 => 141 | 53 => 132 | 70 => 75 | 72 => 78 | 75 => 80 | 76 => 81 | 80 => 85 | 127 => 104 | 164 => 120 | 171 => 131 | 173 => 135 | 212 => 140 | 213 => 142 | 232 => 148 | 233 => 149 | n => n, fun | 17 => 0 | 18 => 2 | 19 => 3 | n => n⟩
theorem sbX : Builder.Extra Tryd.prog sbRen := { sizeBuilder := by kernel_rfl, liesBuilder := by kernel_rfl, t5 := Tryd.underlying5, a5 := Tryd.isAgg5, z5 := Tryd.sizeOf5, v5 := Tryd.zeroValue5, infoByte := by kernel_rfl, cellsByte := by kernel_rfl, sizeByte := by kernel_rfl, neB5 := by decide }
theorem res55 : resF Tryd.prog 55 = some (27, cSzC 35 3 true, [.t 4]) := by kernel_rfl
theorem res35 : resF Tryd.prog 35 = some (12, k_szExpr 55, [.t 4]) := by kernel_rfl
theorem res73 : resF Tryd.prog 73 = some (12, cSzP, [.t 4]) := by kernel_rfl

def rc56 : RC := (.seq (.reg false [⟨none, .box 2 5 (.t 0)⟩, ⟨none, .mv 4 (.c (.sc (.int .i64 0)))⟩]) ((.seq (.reg false [⟨none, .fa 5 2 (.t 2)⟩, ⟨none, .ld 6 false 1 (.t 5)⟩, ⟨none, .mv 7 (.t 1)⟩, ⟨none, .call (some 8) 73 [(.t 6), (.t 7)]⟩, ⟨none, .mv 1 (.t 8)⟩]) ((.seq ((.seq (.reg false [⟨none, .mv 9 (.t 1)⟩, ⟨none, .bin 10 .lss (.t 9) (.c (.sc (.int .i64 0)))⟩]) (.cond (.t 10) ((.seq (.reg false [⟨none, .mv 4 (.c (.sc (.int .i64 (-1))))⟩]) (.ret))) (.skip)))) ((.seq (.reg false [⟨none, .fa 11 3 (.t 2)⟩, ⟨none, .ld 12 false 1 (.t 11)⟩, ⟨none, .mv 13 (.t 1)⟩, ⟨none, .call (some 14) 55 [(.t 12), (.t 13)]⟩, ⟨none, .mv 1 (.t 14)⟩]) ((.seq ((.seq (.reg false [⟨none, .mv 15 (.t 1)⟩, ⟨none, .bin 16 .lss (.t 15) (.c (.sc (.int .i64 0)))⟩]) (.cond (.t 16) ((.seq (.reg false [⟨none, .mv 4 (.c (.sc (.int .i64 (-1))))⟩]) (.ret))) (.skip)))) ((.seq (.reg false [⟨none, .fa 17 4 (.t 2)⟩, ⟨none, .ld 18 false 1 (.t 17)⟩, ⟨none, .mv 19 (.t 1)⟩, ⟨none, .call (some 20) 55 [(.t 18), (.t 19)]⟩, ⟨none, .mv 1 (.t 20)⟩]) ((.seq ((.seq (.reg false [⟨none, .mv 21 (.t 1)⟩, ⟨none, .bin 22 .lss (.t 21) (.c (.sc (.int .i64 0)))⟩]) (.cond (.t 22) ((.seq (.reg false [⟨none, .mv 4 (.c (.sc (.int .i64 (-1))))⟩]) (.ret))) (.skip)))) ((.seq (.reg false [⟨none, .mv 23 (.t 1)⟩, ⟨none, .mv 4 (.t 23)⟩]) (.ret))))))))))))))))
theorem res56 : resF Tryd.prog 56 = some (24, rc56, [.t 4]) := by kernel_rfl
theorem res36 : resF Tryd.prog 36 = some (27, cSzC 56 5 true, [.t 4]) := by kernel_rfl

def rc18 : RC := (.seq (.reg false [⟨none, .box 2 9 (.t 0)⟩, ⟨none, .mv 4 (.c (.sc (.int .i64 0)))⟩]) ((.seq (.reg false [⟨none, .fa 5 0 (.t 2)⟩, ⟨none, .ld 6 true 3 (.t 5)⟩, ⟨none, .mv 7 (.t 1)⟩, ⟨none, .call (some 8) 35 [(.t 6), (.t 7)]⟩, ⟨none, .mv 1 (.t 8)⟩]) ((.seq ((.seq (.reg false [⟨none, .mv 9 (.t 1)⟩, ⟨none, .bin 10 .lss (.t 9) (.c (.sc (.int .i64 0)))⟩]) (.cond (.t 10) ((.seq (.reg false [⟨none, .mv 4 (.c (.sc (.int .i64 (-1))))⟩]) (.ret))) (.skip)))) ((.seq (.reg false [⟨none, .fa 11 3 (.t 2)⟩, ⟨none, .ld 12 true 3 (.t 11)⟩, ⟨none, .mv 13 (.t 1)⟩, ⟨none, .call (some 14) 35 [(.t 12), (.t 13)]⟩, ⟨none, .mv 1 (.t 14)⟩]) ((.seq ((.seq (.reg false [⟨none, .mv 15 (.t 1)⟩, ⟨none, .bin 16 .lss (.t 15) (.c (.sc (.int .i64 0)))⟩]) (.cond (.t 16) ((.seq (.reg false [⟨none, .mv 4 (.c (.sc (.int .i64 (-1))))⟩]) (.ret))) (.skip)))) ((.seq (.reg false [⟨none, .fa 17 8 (.t 2)⟩, ⟨none, .ld 18 false 1 (.t 17)⟩, ⟨none, .mv 19 (.t 1)⟩, ⟨none, .call (some 20) 36 [(.t 18), (.t 19)]⟩, ⟨none, .mv 1 (.t 20)⟩]) ((.seq ((.seq (.reg false [⟨none, .mv 21 (.t 1)⟩, ⟨none, .bin 22 .lss (.t 21) (.c (.sc (.int .i64 0)))⟩]) (.cond (.t 22) ((.seq (.reg false [⟨none, .mv 4 (.c (.sc (.int .i64 (-1))))⟩]) (.ret))) (.skip)))) ((.seq (.reg false [⟨none, .mv 23 (.t 1)⟩, ⟨none, .mv 4 (.t 23)⟩]) (.ret))))))))))))))))
theorem res18 : resF Tryd.prog 18 = some (24, rc18, [.t 4]) := by kernel_rfl
theorem res9 : resF Tryd.prog 9 = some (27, cSzC 18 9 true, [.t 4]) := by kernel_rfl

def rc4 : RC := (.seq (.reg false [⟨none, .box 2 3 (.t 0)⟩, ⟨none, .mv 4 (.c (.sc (.int .i64 0)))⟩]) ((.seq (.reg false [⟨none, .fa 5 2 (.t 2)⟩, ⟨none, .ld 6 false 1 (.t 5)⟩, ⟨none, .mv 7 (.t 1)⟩, ⟨none, .call (some 8) 9 [(.t 6), (.t 7)]⟩, ⟨none, .mv 1 (.t 8)⟩]) ((.seq ((.seq (.reg false [⟨none, .mv 9 (.t 1)⟩, ⟨none, .bin 10 .lss (.t 9) (.c (.sc (.int .i64 0)))⟩]) (.cond (.t 10) ((.seq (.reg false [⟨none, .mv 4 (.c (.sc (.int .i64 (-1))))⟩]) (.ret))) (.skip)))) ((.seq (.reg false [⟨none, .mv 11 (.t 1)⟩, ⟨none, .mv 4 (.t 11)⟩]) (.ret))))))))
theorem res4 : resF Tryd.prog 4 = some (12, rc4, [.t 4]) := by kernel_rfl
theorem res12 : resF Tryd.prog 12 = some (11, k_toSig, [.c 2 2 true]) := by kernel_rfl
theorem af12 : K_toSig Tryd.prog 12 := a_toSig mixed res12
theorem res63 : resF Tryd.prog 63 = some (23, cToC 43 3 40 true (.ag [(.sc (.int .i64 0)), (.sc (.int .i64 0)), (.ls (some true) 3 [])]), [.t 2]) := by kernel_rfl
theorem res43 : resF Tryd.prog 43 = some (15, k_toExpr 63, [.c 2 3 true]) := by kernel_rfl
theorem res76 : resF Tryd.prog 76 = some (22, cToS 8 (.sc (.int .i64 0)), [.t 2]) := by kernel_rfl

def rc64 : RC := (.seq (.reg false [⟨none, .box 1 5 (.t 0)⟩, ⟨none, .zer 2 5 (.ag [(.sc (.int .i64 0)), (.sc (.bool false)), (.ls (some true) 1 []), (.ls (some true) 3 []), (.ls (some true) 3 [])])⟩]) ((.seq (.reg false [⟨none, .zer 3 5 (.ag [(.sc (.int .i64 0)), (.sc (.bool false)), (.ls (some true) 1 []), (.ls (some true) 3 []), (.ls (some true) 3 [])])⟩]) ((.seq (.reg false [⟨none, .fa 4 0 (.t 1)⟩, ⟨none, .ld 5 false 1 (.t 4)⟩, ⟨none, .fa 6 0 (.t 3)⟩, ⟨none, .st 1 (.t 6) (.t 5)⟩]) ((.seq (.reg false [⟨none, .fa 7 1 (.t 1)⟩, ⟨none, .ld 8 false 1 (.t 7)⟩, ⟨none, .fa 9 1 (.t 3)⟩, ⟨none, .st 1 (.t 9) (.t 8)⟩]) ((.seq (.reg false [⟨none, .fa 10 2 (.t 1)⟩, ⟨none, .ld 11 false 1 (.t 10)⟩, ⟨none, .call (some 12) 76 [(.t 11)]⟩, ⟨none, .fa 13 2 (.t 3)⟩, ⟨none, .st 1 (.t 13) (.t 12)⟩]) ((.seq (.reg false [⟨none, .fa 14 3 (.t 1)⟩, ⟨none, .ld 15 false 1 (.t 14)⟩, ⟨none, .call (some 16) 63 [(.t 15)]⟩, ⟨none, .fa 17 3 (.t 3)⟩, ⟨none, .st 1 (.t 17) (.t 16)⟩]) ((.seq (.reg false [⟨none, .fa 18 4 (.t 1)⟩, ⟨none, .ld 19 false 1 (.t 18)⟩, ⟨none, .call (some 20) 63 [(.t 19)]⟩, ⟨none, .fa 21 4 (.t 3)⟩, ⟨none, .st 1 (.t 21) (.t 20)⟩]) ((.seq (.reg false [⟨none, .ld 22 true 5 (.t 3)⟩, ⟨none, .st 5 (.t 2) (.t 22)⟩]) (.ret))))))))))))))))
theorem res64 : resF Tryd.prog 64 = some (23, rc64, [.c 2 5 true]) := by kernel_rfl
theorem res44 : resF Tryd.prog 44 = some (23, cToC 64 5 88 true (.ag [(.sc (.int .i64 0)), (.sc (.bool false)), (.ls (some true) 1 []), (.ls (some true) 3 []), (.ls (some true) 3 [])]), [.t 2]) := by kernel_rfl

def rc24 : RC := (.seq (.reg false [⟨none, .box 1 9 (.t 0)⟩, ⟨none, .zer 2 9 (.ag [(.sc (.int .i64 0)), (.sc (.int .i64 0)), (.ls (some true) 3 []), (.sc (.int .i64 0)), (.sc (.int .i64 0)), (.ls (some true) 3 []), (.sc (.int .i64 0)), (.sc (.int .i64 0)), (.ls (some true) 5 [])])⟩]) ((.seq (.reg false [⟨none, .zer 3 9 (.ag [(.sc (.int .i64 0)), (.sc (.int .i64 0)), (.ls (some true) 3 []), (.sc (.int .i64 0)), (.sc (.int .i64 0)), (.ls (some true) 3 []), (.sc (.int .i64 0)), (.sc (.int .i64 0)), (.ls (some true) 5 [])])⟩]) ((.seq (.reg false [⟨none, .fa 4 0 (.t 1)⟩, ⟨none, .ld 5 true 3 (.t 4)⟩, ⟨none, .call (some 6) 43 [(.t 5)]⟩, ⟨none, .fa 7 0 (.t 3)⟩, ⟨none, .st 3 (.t 7) (.t 6)⟩]) ((.seq (.reg false [⟨none, .fa 8 3 (.t 1)⟩, ⟨none, .ld 9 true 3 (.t 8)⟩, ⟨none, .call (some 10) 43 [(.t 9)]⟩, ⟨none, .fa 11 3 (.t 3)⟩, ⟨none, .st 3 (.t 11) (.t 10)⟩]) ((.seq (.reg false [⟨none, .fa 12 6 (.t 1)⟩, ⟨none, .ld 13 false 1 (.t 12)⟩, ⟨none, .fa 14 6 (.t 3)⟩, ⟨none, .st 1 (.t 14) (.t 13)⟩]) ((.seq (.reg false [⟨none, .fa 15 7 (.t 1)⟩, ⟨none, .ld 16 false 1 (.t 15)⟩, ⟨none, .fa 17 7 (.t 3)⟩, ⟨none, .st 1 (.t 17) (.t 16)⟩]) ((.seq (.reg false [⟨none, .fa 18 8 (.t 1)⟩, ⟨none, .ld 19 false 1 (.t 18)⟩, ⟨none, .call (some 20) 44 [(.t 19)]⟩, ⟨none, .fa 21 8 (.t 3)⟩, ⟨none, .st 1 (.t 21) (.t 20)⟩]) ((.seq (.reg false [⟨none, .ld 22 true 9 (.t 3)⟩, ⟨none, .st 9 (.t 2) (.t 22)⟩]) (.ret))))))))))))))))
theorem res24 : resF Tryd.prog 24 = some (23, rc24, [.c 2 9 true]) := by kernel_rfl
theorem res13 : resF Tryd.prog 13 = some (23, cToC 24 9 120 true (.ag [(.sc (.int .i64 0)), (.sc (.int .i64 0)), (.ls (some true) 3 []), (.sc (.int .i64 0)), (.sc (.int .i64 0)), (.ls (some true) 3 []), (.sc (.int .i64 0)), (.sc (.int .i64 0)), (.ls (some true) 5 [])]), [.t 2]) := by kernel_rfl

def rc6 : RC := (.seq (.reg false [⟨none, .box 1 3 (.t 0)⟩, ⟨none, .zer 2 3 (.ag [(.sc (.int .i64 0)), (.sc (.int .i64 0)), (.ls (some true) 9 [])])⟩]) ((.seq (.reg false [⟨none, .zer 3 3 (.ag [(.sc (.int .i64 0)), (.sc (.int .i64 0)), (.ls (some true) 9 [])])⟩]) ((.seq (.reg false [⟨none, .fa 4 0 (.t 1)⟩, ⟨none, .ld 5 true 2 (.t 4)⟩, ⟨none, .call (some 6) 12 [(.t 5)]⟩, ⟨none, .fa 7 0 (.t 3)⟩, ⟨none, .st 2 (.t 7) (.t 6)⟩]) ((.seq (.reg false [⟨none, .fa 8 2 (.t 1)⟩, ⟨none, .ld 9 false 1 (.t 8)⟩, ⟨none, .call (some 10) 13 [(.t 9)]⟩, ⟨none, .fa 11 2 (.t 3)⟩, ⟨none, .st 1 (.t 11) (.t 10)⟩]) ((.seq (.reg false [⟨none, .ld 12 true 3 (.t 3)⟩, ⟨none, .st 3 (.t 2) (.t 12)⟩]) (.ret))))))))))
theorem res6 : resF Tryd.prog 6 = some (13, rc6, [.c 2 3 true]) := by kernel_rfl
theorem res37 : resF Tryd.prog 37 = some (15, k_l00In, [.t 6]) := by kernel_rfl
theorem af37 : K_l00In Tryd.prog 37 := a_l00In mixed res37
theorem res19 : resF Tryd.prog 19 = some (11, k_l01Sig 37, [.t 2]) := by kernel_rfl
theorem af19 : K_l01Sig Tryd.prog 19 := a_l01Sig mixed res19 af37
theorem res57 : resF Tryd.prog 57 = some (30, k_l01Left 57, [.t 4]) := by kernel_rfl
theorem af57 : K_l01Left Tryd.prog 57 := a_l01Left mixed res57
theorem res41 : resF Tryd.prog 41 = some (10, k_l00Max, [.t 4]) := by kernel_rfl
theorem af41 : K_l00Max Tryd.prog 41 := a_l00Max mixed res41
theorem res58 : resF Tryd.prog 58 = some (25, k_l01Depth 58 41, [.t 2]) := by kernel_rfl
theorem af58 : K_l01Depth Tryd.prog 58 := a_l01Depth mixed res58 af41
theorem res74 : resF Tryd.prog 74 = some (15, k_l01Kids, [.t 2]) := by kernel_rfl
theorem af74 : K_l01Kids Tryd.prog 74 := a_l01Kids mixed res74
theorem res75 : resF Tryd.prog 75 = some (34, k_l01Condition 75 37, [.t 2]) := by kernel_rfl
theorem af75 : K_l01Condition Tryd.prog 75 := a_l01Condition mixed res75 af37
theorem res59 : resF Tryd.prog 59 = some (80, k_l01Tree 59 74 37 75, [.t 4]) := by kernel_rfl
theorem af59 : K_l01Tree Tryd.prog 59 := a_l01Tree mixed res59 af74 af37 af75
theorem res38 : resF Tryd.prog 38 = some (22, k_l01Ok 19 57 58 59, [.t 4]) := by kernel_rfl
theorem af38 : K_l01Ok Tryd.prog 38 := a_l01Ok mixed res38 af19 af57 af58 af59
theorem res60 : resF Tryd.prog 60 = some (2, k_l04AxiomTexts, [.t 0]) := by kernel_rfl
theorem af60 : K_l04AxiomTexts Tryd.prog 60 := a_l04AxiomTexts mixed res60
theorem res61 : resF Tryd.prog 61 = some (18, k_l04Valid 38, [.t 4]) := by kernel_rfl
theorem af61 : K_l04Valid Tryd.prog 61 := a_l04Valid mixed res61 af38
theorem res62 : resF Tryd.prog 62 = some (15, k_l04Conditions 75, [.t 2]) := by kernel_rfl
theorem af62 : K_l04Conditions Tryd.prog 62 := a_l04Conditions mixed res62 af75
theorem res39 : resF Tryd.prog 39 = some (78, k_l04Step 60 37 61 62, [.t 4]) := by kernel_rfl
theorem af39 : K_l04Step Tryd.prog 39 := a_l04Step mixed res39 af60 af37 af61 af62
theorem res20 : resF Tryd.prog 20 = some (89, k_l04Claim 38 37 39, [.t 4]) := by kernel_rfl
theorem af20 : K_l04Claim Tryd.prog 20 := a_l04Claim mixed res20 af38 af37 af39
theorem res10 : resF Tryd.prog 10 = some (39, k_l04Ok 19 20, [.t 2]) := by kernel_rfl
theorem af10 : K_l04Ok Tryd.prog 10 := a_l04Ok mixed res10 af19 af20
theorem res21 : resF Tryd.prog 21 = some (20, k_spDecimal 21, [.t 2]) := by kernel_rfl
theorem af21 : K_spDecimal Tryd.prog 21 := a_spDecimal mixed res21
theorem res40 : resF Tryd.prog 40 = some (79, k_l01Text 40 21, [.t 2]) := by kernel_rfl
theorem af40 : K_l01Text Tryd.prog 40 := a_l01Text mixed res40 af21
theorem res22 : resF Tryd.prog 22 = some (13, k_l04Line 40, [.t 2]) := by kernel_rfl
theorem af22 : K_l04Line Tryd.prog 22 := a_l04Line mixed res22 af40
theorem res42 : resF Tryd.prog 42 = some (23, k_l04List 40, [.t 2]) := by kernel_rfl
theorem af42 : K_l04List Tryd.prog 42 := a_l04List mixed res42 af40
theorem res23 : resF Tryd.prog 23 = some (79, k_l04StepText 41 21 42, [.t 2]) := by kernel_rfl
theorem af23 : K_l04StepText Tryd.prog 23 := a_l04StepText mixed res23 af41 af21 af42
theorem res11 : resF Tryd.prog 11 = some (100, k_l04Text 21 22 23, [.t 2]) := by kernel_rfl
theorem af11 : K_l04Text Tryd.prog 11 := a_l04Text mixed res11 af21 af22 af23
theorem res5 : resF Tryd.prog 5 = some (6, k_spProofText 10 11, [.t 2]) := by kernel_rfl
theorem af5 : K_spProofText Tryd.prog 5 := a_spProofText mixed res5 af10 af11
theorem res27 : resF Tryd.prog 27 = some (15, k_within, [.t 6]) := by kernel_rfl
theorem af27 : K_within Tryd.prog 27 := a_within mixed res27
theorem res25 : resF Tryd.prog 25 = some (11, k_validSig 27, [.t 2]) := by kernel_rfl
theorem af25 : K_validSig Tryd.prog 25 := a_validSig mixed res25 af27
theorem res77 : resF Tryd.prog 77 = some (15, k_kidsOf, [.t 2]) := by kernel_rfl
theorem af77 : K_kidsOf Tryd.prog 77 := a_kidsOf mixed res77
theorem res66 : resF Tryd.prog 66 = some (25, k_isCondition 66, [.t 2]) := by kernel_rfl
theorem af66 : K_isCondition Tryd.prog 66 := a_isCondition mixed res66
theorem res65 : resF Tryd.prog 65 = some (86, k_shaped 65 77 27 66, [.t 8, .t 9]) := by kernel_rfl
theorem af65 : K_shaped Tryd.prog 65 := a_shaped mixed res65 af77 af27 af66
theorem res45 : resF Tryd.prog 45 = some (14, k_isExpr 65, [.t 4]) := by kernel_rfl
theorem af45 : K_isExpr Tryd.prog 45 := a_isExpr mixed res45 af65
theorem res26 : resF Tryd.prog 26 = some (20, k_validExprs 45 25, [.t 4]) := by kernel_rfl
theorem af26 : K_validExprs Tryd.prog 26 := a_validExprs mixed res26 af45 af25
theorem res46 : resF Tryd.prog 46 = some (19, k_inRange 27, [.t 4]) := by kernel_rfl
theorem af46 : K_inRange Tryd.prog 46 := a_inRange mixed res46 af27
theorem res47 : resF Tryd.prog 47 = some (15, k_areConditions 66, [.t 2]) := by kernel_rfl
theorem af47 : K_areConditions Tryd.prog 47 := a_areConditions mixed res47 af66
theorem res28 : resF Tryd.prog 28 = some (48, k_isStep 27 46 26 47, [.t 4]) := by kernel_rfl
theorem af28 : K_isStep Tryd.prog 28 := a_isStep mixed res28 af27 af46 af26 af47
theorem res14 : resF Tryd.prog 14 = some (84, k_imValidProof 25 26 27 28, [.t 2]) := by kernel_rfl
theorem af14 : K_imValidProof Tryd.prog 14 := a_imValidProof mixed res14 af25 af26 af27 af28
theorem res78 : resF Tryd.prog 78 = some (15, k_small, [.t 2]) := by kernel_rfl
theorem af78 : K_small Tryd.prog 78 := a_small mixed res78
theorem res68 : resF Tryd.prog 68 = some (54, k_formatInt 78 79 80 81 (othF Tryd.prog 68 0) (othF Tryd.prog 68 1) (othF Tryd.prog 68 2) (othF Tryd.prog 68 3), [.t 4]) := by kernel_rfl
theorem af68 : K_formatInt Tryd.prog 68 := a_formatInt mixed res68 af78
theorem res49 : resF Tryd.prog 49 = some (8, k_formatIntS 68, [.t 4]) := by kernel_rfl
theorem af49 : K_formatIntS Tryd.prog 49 := a_formatIntS mixed res49 af68
theorem res30 : resF Tryd.prog 30 = some (5, k_imDecimal 49, [.t 2]) := by kernel_rfl
theorem af30 : K_imDecimal Tryd.prog 30 := a_imDecimal mixed res30 af49
theorem sbLay173 : LaysM.n173 Tryd.prog sbRen := { mixed := by kernel_rfl, f129 := Tryd.func85.trans (congrArg some (by kernel_rfl)), f173 := Tryd.func49.trans (congrArg some (by kernel_rfl)), f246 := Tryd.func68.trans (congrArg some (by kernel_rfl)), f283 := Tryd.func78.trans (congrArg some (by kernel_rfl)), f284 := Tryd.func79.trans (congrArg some (by kernel_rfl)), f285 := Tryd.func80.trans (congrArg some (by kernel_rfl)), f286 := Tryd.func81.trans (congrArg some (by kernel_rfl)), f317 := Tryd.func84.trans (congrArg some (by kernel_rfl)), f318 := Tryd.func86.trans (congrArg some (by kernel_rfl)), f319 := Tryd.func87.trans (congrArg some (by kernel_rfl)), f320 := Tryd.func88.trans (congrArg some (by kernel_rfl)), f337 := Tryd.func90.trans (congrArg some (by kernel_rfl)), f338 := Tryd.func91.trans (congrArg some (by kernel_rfl)), t0 := Tryd.underlying0, a0 := Tryd.isAgg0, z0 := Tryd.sizeOf0, v0 := Tryd.zeroValue0, t2 := Tryd.underlying2, a2 := Tryd.isAgg2, z2 := Tryd.sizeOf2, v2 := Tryd.zeroValue2, t3 := Tryd.underlying3, a3 := Tryd.isAgg3, z3 := Tryd.sizeOf3, v3 := Tryd.zeroValue3, t4 := Tryd.underlying4, a4 := Tryd.isAgg4, z4 := Tryd.sizeOf4, v4 := Tryd.zeroValue4, t5 := Tryd.underlying5, a5 := Tryd.isAgg5, z5 := Tryd.sizeOf5, v5 := Tryd.zeroValue5, t9 := Tryd.underlying9, a9 := Tryd.isAgg9, z9 := Tryd.sizeOf9, v9 := Tryd.zeroValue9, t20 := Tryd.underlying20, a20 := Tryd.isAgg20, z20 := Tryd.sizeOf20, v20 := Tryd.zeroValue20, t37 := Tryd.underlying76, a37 := Tryd.isAgg76, z37 := Tryd.sizeOf76, v37 := Tryd.zeroValue76, t46 := Tryd.underlying144, a46 := Tryd.isAgg144, z46 := Tryd.sizeOf144, v46 := Tryd.zeroValue144, t51 := Tryd.underlying141, a51 := Tryd.isAgg141, z51 := Tryd.sizeOf141, v51 := Tryd.zeroValue141, t53 := Tryd.underlying132, a53 := Tryd.isAgg132, z53 := Tryd.sizeOf132, v53 := Tryd.zeroValue132, t171 := Tryd.underlying131, a171 := Tryd.isAgg131, z171 := Tryd.sizeOf131, v171 := Tryd.zeroValue131, t173 := Tryd.underlying135, a173 := Tryd.isAgg135, z173 := Tryd.sizeOf135, v173 := Tryd.zeroValue135, t212 := Tryd.underlying140, a212 := Tryd.isAgg140, z212 := Tryd.sizeOf140, v212 := Tryd.zeroValue140, t213 := Tryd.underlying142, a213 := Tryd.isAgg142, z213 := Tryd.sizeOf142, t232 := Tryd.underlying148, a232 := Tryd.isAgg148, z232 := Tryd.sizeOf148, v232 := Tryd.zeroValue148, t233 := Tryd.underlying149, a233 := Tryd.isAgg149, z233 := Tryd.sizeOf149, v233 := Tryd.zeroValue149, g17 := by kernel_rfl, g18 := by kernel_rfl, g19 := by kernel_rfl, i0 := by kernel_rfl, i2 := by kernel_rfl, i3 := by kernel_rfl, i4 := by kernel_rfl, i5 := by kernel_rfl, i9 := by kernel_rfl, i20 := by kernel_rfl, i37 := by kernel_rfl, i46 := by kernel_rfl, i51 := by kernel_rfl, i53 := by kernel_rfl, i171 := by kernel_rfl, i173 := by kernel_rfl, i212 := by kernel_rfl, i232 := by kernel_rfl, i233 := by kernel_rfl, m17 := by kernel_rfl, m18 := by kernel_rfl, m19 := by kernel_rfl }
theorem sbC49 : Callable Tryd.prog 49 := ⟨Tryd.f49, Tryd.func49, by kernel_rfl, by kernel_rfl⟩
theorem af49N : K_fmtN Tryd.prog 49 := fmtN_ok sbLay173 sbC49
theorem af30N : K_imDecimalN Tryd.prog 30 := a_imDecimalN mixed res30 af30 af49N
theorem sbLay166 : Lays.n166 Tryd.prog sbRen := { mixed := by kernel_rfl, f166 := Tryd.func29.trans (congrArg some (by kernel_rfl)), f240 := Tryd.func48.trans (congrArg some (by kernel_rfl)), f276 := Tryd.func67.trans (congrArg some (by kernel_rfl)), t0 := Tryd.underlying0, a0 := Tryd.isAgg0, z0 := Tryd.sizeOf0, v0 := Tryd.zeroValue0, t3 := Tryd.underlying3, a3 := Tryd.isAgg3, z3 := Tryd.sizeOf3, v3 := Tryd.zeroValue3, t4 := Tryd.underlying4, a4 := Tryd.isAgg4, z4 := Tryd.sizeOf4, v4 := Tryd.zeroValue4, t9 := Tryd.underlying9, a9 := Tryd.isAgg9, z9 := Tryd.sizeOf9, v9 := Tryd.zeroValue9, t20 := Tryd.underlying20, a20 := Tryd.isAgg20, z20 := Tryd.sizeOf20, v20 := Tryd.zeroValue20, t37 := Tryd.underlying76, a37 := Tryd.isAgg76, z37 := Tryd.sizeOf76, v37 := Tryd.zeroValue76, t70 := Tryd.underlying75, a70 := Tryd.isAgg75, z70 := Tryd.sizeOf75, v70 := Tryd.zeroValue75, t72 := Tryd.underlying78, a72 := Tryd.isAgg78, z72 := Tryd.sizeOf78, v72 := Tryd.zeroValue78, t75 := Tryd.underlying80, a75 := Tryd.isAgg80, z75 := Tryd.sizeOf80, v75 := Tryd.zeroValue80, t164 := Tryd.underlying120, a164 := Tryd.isAgg120, z164 := Tryd.sizeOf120, v164 := Tryd.zeroValue120 }
theorem sbC29 : Callable Tryd.prog 29 := ⟨Tryd.f29, Tryd.func29, by kernel_rfl, by kernel_rfl⟩
theorem af29 : K_wrS Tryd.prog 29 := fun s hs => wrS_ok sbLay166 sbX sbC29 s hs
theorem res69 : resF Tryd.prog 69 = some (76, k_writeExpr 69 30 29, []) := by kernel_rfl
theorem af69 : K_writeExpr Tryd.prog 69 := a_writeExpr mixed res69 af30 af29
theorem sbLay169 : Lays.n169 Tryd.prog sbRen := { mixed := by kernel_rfl, f169 := Tryd.func33.trans (congrArg some (by kernel_rfl)), t0 := Tryd.underlying0, a0 := Tryd.isAgg0, z0 := Tryd.sizeOf0, v0 := Tryd.zeroValue0, t3 := Tryd.underlying3, a3 := Tryd.isAgg3, z3 := Tryd.sizeOf3, v3 := Tryd.zeroValue3, t9 := Tryd.underlying9, a9 := Tryd.isAgg9, z9 := Tryd.sizeOf9, v9 := Tryd.zeroValue9, t37 := Tryd.underlying76, a37 := Tryd.isAgg76, z37 := Tryd.sizeOf76, v37 := Tryd.zeroValue76, t70 := Tryd.underlying75, a70 := Tryd.isAgg75, z70 := Tryd.sizeOf75, v70 := Tryd.zeroValue75, t72 := Tryd.underlying78, a72 := Tryd.isAgg78, z72 := Tryd.sizeOf78, v72 := Tryd.zeroValue78, t127 := Tryd.underlying104, a127 := Tryd.isAgg104, z127 := Tryd.sizeOf104, v127 := Tryd.zeroValue104 }
theorem sbC33 : Callable Tryd.prog 33 := ⟨Tryd.f33, Tryd.func33, by kernel_rfl, by kernel_rfl⟩
theorem af33 : K_bdS Tryd.prog 33 := bdS_ok sbLay169 sbX sbC33
theorem res50 : resF Tryd.prog 50 = some (8, k_textOf 69 33, [.t 2]) := by kernel_rfl
theorem af50 : K_textOf Tryd.prog 50 := a_textOf mixed res50 af69 af33
theorem res31 : resF Tryd.prog 31 = some (11, k_equationText 50, [.t 2]) := by kernel_rfl
theorem af31 : K_equationText Tryd.prog 31 := a_equationText mixed res31 af50
theorem sbLay156 : Lays.n156 Tryd.prog sbRen := { mixed := by kernel_rfl, f156 := Tryd.func51.trans (congrArg some (by kernel_rfl)), f165 := Tryd.func70.trans (congrArg some (by kernel_rfl)), f166 := Tryd.func29.trans (congrArg some (by kernel_rfl)), f169 := Tryd.func33.trans (congrArg some (by kernel_rfl)), f240 := Tryd.func48.trans (congrArg some (by kernel_rfl)), f241 := Tryd.func82.trans (congrArg some (by kernel_rfl)), f276 := Tryd.func67.trans (congrArg some (by kernel_rfl)), f277 := Tryd.func89.trans (congrArg some (by kernel_rfl)), t0 := Tryd.underlying0, a0 := Tryd.isAgg0, z0 := Tryd.sizeOf0, v0 := Tryd.zeroValue0, t3 := Tryd.underlying3, a3 := Tryd.isAgg3, z3 := Tryd.sizeOf3, v3 := Tryd.zeroValue3, t4 := Tryd.underlying4, a4 := Tryd.isAgg4, z4 := Tryd.sizeOf4, v4 := Tryd.zeroValue4, t9 := Tryd.underlying9, a9 := Tryd.isAgg9, z9 := Tryd.sizeOf9, v9 := Tryd.zeroValue9, t20 := Tryd.underlying20, a20 := Tryd.isAgg20, z20 := Tryd.sizeOf20, v20 := Tryd.zeroValue20, t31 := Tryd.underlying102, a31 := Tryd.isAgg102, z31 := Tryd.sizeOf102, v31 := Tryd.zeroValue102, t37 := Tryd.underlying76, a37 := Tryd.isAgg76, z37 := Tryd.sizeOf76, v37 := Tryd.zeroValue76, t70 := Tryd.underlying75, a70 := Tryd.isAgg75, z70 := Tryd.sizeOf75, v70 := Tryd.zeroValue75, t72 := Tryd.underlying78, a72 := Tryd.isAgg78, z72 := Tryd.sizeOf78, v72 := Tryd.zeroValue78, t75 := Tryd.underlying80, a75 := Tryd.isAgg80, z75 := Tryd.sizeOf80, v75 := Tryd.zeroValue80, t76 := Tryd.underlying81, a76 := Tryd.isAgg81, z76 := Tryd.sizeOf81, v76 := Tryd.zeroValue81, t127 := Tryd.underlying104, a127 := Tryd.isAgg104, z127 := Tryd.sizeOf104, v127 := Tryd.zeroValue104, t164 := Tryd.underlying120, a164 := Tryd.isAgg120, z164 := Tryd.sizeOf120, v164 := Tryd.zeroValue120 }
theorem sbC51 : Callable Tryd.prog 51 := ⟨Tryd.f51, Tryd.func51, by kernel_rfl, by kernel_rfl⟩
theorem af51 : K_join Tryd.prog 51 := join_ok sbLay156 sbX sbC51
theorem res52 : resF Tryd.prog 52 = some (23, k_imListText 50 51, [.t 2]) := by kernel_rfl
theorem af52 : K_imListText Tryd.prog 52 := a_imListText mixed res52 af50 af51
theorem res32 : resF Tryd.prog 32 = some (58, k_imStepText 30 51 52, [.t 2]) := by kernel_rfl
theorem af32 : K_imStepText Tryd.prog 32 := a_imStepText mixed res32 af30N af51 af52
theorem res15 : resF Tryd.prog 15 = some (69, k_imProofText 30 31 32 29 33, [.t 2]) := by kernel_rfl
theorem af15 : K_imProofText Tryd.prog 15 := a_imProofText mixed res15 af30 af31 af32 af29 af33
theorem res7 : resF Tryd.prog 7 = some (8, k_imProofTextF 14 15, [.t 2]) := by kernel_rfl
theorem af7 : K_imProofTextF Tryd.prog 7 := a_imProofTextF mixed res7 af14 af15
theorem res16 : resF Tryd.prog 16 = some (15, k_eqSig, [.t 4]) := by kernel_rfl
theorem af16 : K_eqSig Tryd.prog 16 := a_eqSig mixed res16
theorem res71 : resF Tryd.prog 71 = some (27, cEqC 53 3 true, [.t 4]) := by kernel_rfl
theorem res53 : resF Tryd.prog 53 = some (21, k_eqExpr 71, [.t 4]) := by kernel_rfl
theorem res83 : resF Tryd.prog 83 = some (26, cEqS, [.t 4]) := by kernel_rfl

def rc72 : RC := (.seq (.reg false [⟨none, .box 2 5 (.t 0)⟩, ⟨none, .box 3 5 (.t 1)⟩, ⟨none, .mv 4 (.c (.sc (.bool false)))⟩]) ((.seq ((.seq (.reg false [⟨none, .fa 5 0 (.t 2)⟩, ⟨none, .ld 6 false 1 (.t 5)⟩, ⟨none, .fa 7 0 (.t 3)⟩, ⟨none, .ld 8 false 1 (.t 7)⟩, ⟨none, .bin 9 .neq (.t 6) (.t 8)⟩]) (.cond (.t 9) ((.seq (.reg false [⟨none, .mv 4 (.c (.sc (.bool false)))⟩]) (.ret))) (.skip)))) ((.seq ((.seq (.reg false [⟨none, .fa 10 1 (.t 2)⟩, ⟨none, .ld 11 false 1 (.t 10)⟩, ⟨none, .fa 12 1 (.t 3)⟩, ⟨none, .ld 13 false 1 (.t 12)⟩, ⟨none, .beq 14 true (.t 11) (.t 13)⟩]) (.cond (.t 14) ((.seq (.reg false [⟨none, .mv 4 (.c (.sc (.bool false)))⟩]) (.ret))) (.skip)))) ((.seq ((.seq (.reg false [⟨none, .fa 15 2 (.t 2)⟩, ⟨none, .ld 16 false 1 (.t 15)⟩, ⟨none, .fa 17 2 (.t 3)⟩, ⟨none, .ld 18 false 1 (.t 17)⟩, ⟨none, .call (some 19) 83 [(.t 16), (.t 18)]⟩, ⟨none, .un 20 .not (.t 19)⟩]) (.cond (.t 20) ((.seq (.reg false [⟨none, .mv 4 (.c (.sc (.bool false)))⟩]) (.ret))) (.skip)))) ((.seq ((.seq (.reg false [⟨none, .fa 21 3 (.t 2)⟩, ⟨none, .ld 22 false 1 (.t 21)⟩, ⟨none, .fa 23 3 (.t 3)⟩, ⟨none, .ld 24 false 1 (.t 23)⟩, ⟨none, .call (some 25) 71 [(.t 22), (.t 24)]⟩, ⟨none, .un 26 .not (.t 25)⟩]) (.cond (.t 26) ((.seq (.reg false [⟨none, .mv 4 (.c (.sc (.bool false)))⟩]) (.ret))) (.skip)))) ((.seq ((.seq (.reg false [⟨none, .fa 27 4 (.t 2)⟩, ⟨none, .ld 28 false 1 (.t 27)⟩, ⟨none, .fa 29 4 (.t 3)⟩, ⟨none, .ld 30 false 1 (.t 29)⟩, ⟨none, .call (some 31) 71 [(.t 28), (.t 30)]⟩, ⟨none, .un 32 .not (.t 31)⟩]) (.cond (.t 32) ((.seq (.reg false [⟨none, .mv 4 (.c (.sc (.bool false)))⟩]) (.ret))) (.skip)))) ((.seq (.reg false [⟨none, .mv 4 (.c (.sc (.bool true)))⟩]) (.ret))))))))))))))
theorem res72 : resF Tryd.prog 72 = some (33, rc72, [.t 4]) := by kernel_rfl
theorem res54 : resF Tryd.prog 54 = some (27, cEqC 72 5 true, [.t 4]) := by kernel_rfl

def rc34 : RC := (.seq (.reg false [⟨none, .box 2 9 (.t 0)⟩, ⟨none, .box 3 9 (.t 1)⟩, ⟨none, .mv 4 (.c (.sc (.bool false)))⟩]) ((.seq ((.seq (.reg false [⟨none, .fa 5 0 (.t 2)⟩, ⟨none, .ld 6 true 3 (.t 5)⟩, ⟨none, .fa 7 0 (.t 3)⟩, ⟨none, .ld 8 true 3 (.t 7)⟩, ⟨none, .call (some 9) 53 [(.t 6), (.t 8)]⟩, ⟨none, .un 10 .not (.t 9)⟩]) (.cond (.t 10) ((.seq (.reg false [⟨none, .mv 4 (.c (.sc (.bool false)))⟩]) (.ret))) (.skip)))) ((.seq ((.seq (.reg false [⟨none, .fa 11 3 (.t 2)⟩, ⟨none, .ld 12 true 3 (.t 11)⟩, ⟨none, .fa 13 3 (.t 3)⟩, ⟨none, .ld 14 true 3 (.t 13)⟩, ⟨none, .call (some 15) 53 [(.t 12), (.t 14)]⟩, ⟨none, .un 16 .not (.t 15)⟩]) (.cond (.t 16) ((.seq (.reg false [⟨none, .mv 4 (.c (.sc (.bool false)))⟩]) (.ret))) (.skip)))) ((.seq ((.seq (.reg false [⟨none, .fa 17 6 (.t 2)⟩, ⟨none, .ld 18 false 1 (.t 17)⟩, ⟨none, .fa 19 6 (.t 3)⟩, ⟨none, .ld 20 false 1 (.t 19)⟩, ⟨none, .bin 21 .neq (.t 18) (.t 20)⟩]) (.cond (.t 21) ((.seq (.reg false [⟨none, .mv 4 (.c (.sc (.bool false)))⟩]) (.ret))) (.skip)))) ((.seq ((.seq (.reg false [⟨none, .fa 22 7 (.t 2)⟩, ⟨none, .ld 23 false 1 (.t 22)⟩, ⟨none, .fa 24 7 (.t 3)⟩, ⟨none, .ld 25 false 1 (.t 24)⟩, ⟨none, .bin 26 .neq (.t 23) (.t 25)⟩]) (.cond (.t 26) ((.seq (.reg false [⟨none, .mv 4 (.c (.sc (.bool false)))⟩]) (.ret))) (.skip)))) ((.seq ((.seq (.reg false [⟨none, .fa 27 8 (.t 2)⟩, ⟨none, .ld 28 false 1 (.t 27)⟩, ⟨none, .fa 29 8 (.t 3)⟩, ⟨none, .ld 30 false 1 (.t 29)⟩, ⟨none, .call (some 31) 54 [(.t 28), (.t 30)]⟩, ⟨none, .un 32 .not (.t 31)⟩]) (.cond (.t 32) ((.seq (.reg false [⟨none, .mv 4 (.c (.sc (.bool false)))⟩]) (.ret))) (.skip)))) ((.seq (.reg false [⟨none, .mv 4 (.c (.sc (.bool true)))⟩]) (.ret))))))))))))))
theorem res34 : resF Tryd.prog 34 = some (33, rc34, [.t 4]) := by kernel_rfl
theorem res17 : resF Tryd.prog 17 = some (27, cEqC 34 9 true, [.t 4]) := by kernel_rfl

def rc8 : RC := (.seq (.reg false [⟨none, .box 2 3 (.t 0)⟩, ⟨none, .box 3 3 (.t 1)⟩, ⟨none, .mv 4 (.c (.sc (.bool false)))⟩]) ((.seq ((.seq (.reg false [⟨none, .fa 5 0 (.t 2)⟩, ⟨none, .ld 6 true 2 (.t 5)⟩, ⟨none, .fa 7 0 (.t 3)⟩, ⟨none, .ld 8 true 2 (.t 7)⟩, ⟨none, .call (some 9) 16 [(.t 6), (.t 8)]⟩, ⟨none, .un 10 .not (.t 9)⟩]) (.cond (.t 10) ((.seq (.reg false [⟨none, .mv 4 (.c (.sc (.bool false)))⟩]) (.ret))) (.skip)))) ((.seq ((.seq (.reg false [⟨none, .fa 11 2 (.t 2)⟩, ⟨none, .ld 12 false 1 (.t 11)⟩, ⟨none, .fa 13 2 (.t 3)⟩, ⟨none, .ld 14 false 1 (.t 13)⟩, ⟨none, .call (some 15) 17 [(.t 12), (.t 14)]⟩, ⟨none, .un 16 .not (.t 15)⟩]) (.cond (.t 16) ((.seq (.reg false [⟨none, .mv 4 (.c (.sc (.bool false)))⟩]) (.ret))) (.skip)))) ((.seq (.reg false [⟨none, .mv 4 (.c (.sc (.bool true)))⟩]) (.ret))))))))
theorem res8 : resF Tryd.prog 8 = some (17, rc8, [.t 4]) := by kernel_rfl

def rc3 : RC := (.seq (.reg false [⟨none, .box 1 3 (.t 0)⟩, ⟨none, .mv 2 (.c (.sc (.bool false)))⟩]) ((.seq (.reg false [⟨none, .mv 3 (.c (.sc (.int .i64 1048576)))⟩]) ((.seq (.reg false [⟨none, .ld 7 true 3 (.t 1)⟩, ⟨none, .mv 8 (.t 3)⟩, ⟨none, .call (some 9) 4 [(.t 7), (.t 8)]⟩, ⟨none, .mv 3 (.t 9)⟩]) ((.seq ((.seq (.reg false [⟨none, .mv 10 (.t 3)⟩, ⟨none, .bin 11 .lss (.t 10) (.c (.sc (.int .i64 0)))⟩]) (.cond (.t 11) ((.seq (.reg false [⟨none, .mv 2 (.c (.sc (.bool true)))⟩]) (.ret))) (.skip)))) ((.seq (.reg false [⟨none, .ld 12 true 3 (.t 1)⟩, ⟨none, .call (some 13) 6 [(.t 12)]⟩, ⟨none, .call (some 14) 5 [(.t 13)]⟩, ⟨none, .mv 4 (.t 14)⟩]) ((.seq (.reg false [⟨none, .ld 15 true 3 (.t 1)⟩, ⟨none, .call (some 16) 6 [(.t 15)]⟩, ⟨none, .zer 5 3 (.ag [(.sc (.int .i64 0)), (.sc (.int .i64 0)), (.ls (some true) 9 [])])⟩, ⟨none, .st 3 (.t 5) (.t 16)⟩]) ((.seq (.reg false [⟨none, .ld 17 true 3 (.t 5)⟩, ⟨none, .call (some 18) 7 [(.t 17)]⟩, ⟨none, .mv 6 (.t 18)⟩]) ((.seq ((.seq (.reg false [⟨none, .mv 19 (.t 6)⟩, ⟨none, .mv 20 (.t 4)⟩, ⟨none, .bin 21 .neq (.t 19) (.t 20)⟩]) (.cond (.t 21) ((.seq (.reg false [⟨none, .mv 2 (.c (.sc (.bool false)))⟩]) (.ret))) (.skip)))) ((.seq ((.seq (.reg true [⟨none, .ld 22 true 3 (.t 5)⟩, ⟨none, .ld 23 true 3 (.t 1)⟩, ⟨none, .call (some 24) 6 [(.t 23)]⟩, ⟨none, .call (some 25) 8 [(.t 22), (.t 24)]⟩, ⟨none, .un 26 .not (.t 25)⟩]) (.cond (.t 26) ((.seq (.reg false [⟨none, .mv 2 (.c (.sc (.bool false)))⟩]) (.ret))) (.skip)))) ((.seq (.reg false [⟨none, .mv 2 (.c (.sc (.bool true)))⟩]) (.ret))))))))))))))))))))
theorem res3 : resF Tryd.prog 3 = some (27, rc3, [.t 2]) := by kernel_rfl
noncomputable def famExpr : Fam Tryd.prog eE 35 43 53 := famE mixed res35 res55 res43 res63 res53 res71
theorem famExpr_t (x) : famExpr.t x = tE x := rfl
noncomputable def famInt64S : Fam Tryd.prog (eS 1 eI) 73 76 83 := famP mixed encI noI ⟨rfl, rfl, rfl⟩ (by omega) res73 res76 (eqL fun x y => x == y) (fun _ => eqL_refl fun _ _ => by simp) fun a b => af_eqS mixed res83 a b
theorem famInt64S_t (x) : famInt64S.t x = (some false, x.2) := rfl
noncomputable def famExprS : Fam Tryd.prog (eS 3 eE) 55 63 71 := famC mixed famExpr encE ⟨rfl, rfl, rfl⟩ (by omega) res55 res63 res71
theorem famExprS_t (x) : famExprS.t x = (some false, x.2.map famExpr.t) := rfl
noncomputable def szProofStep (m : Stp) : Int → Int := fun l => nx (famInt64S.s m.2.2.1 l) (fun l => nx (famExprS.s m.2.2.2.1 l) (fun l => nx (famExprS.s m.2.2.2.2 l) (fun l => l)))
def fitProofStep (m : Stp) : Prop := famInt64S.fit m.2.2.1 ∧ famExprS.fit m.2.2.2.1 ∧ famExprS.fit m.2.2.2.2
noncomputable def tProofStep (m : Stp) : Stp := (m.1, m.2.1, famInt64S.t m.2.2.1, famExprS.t m.2.2.2.1, famExprS.t m.2.2.2.2)
noncomputable def qProofStep (a b : Stp) : Bool := ((a.1 == b.1) && ((a.2.1 == b.2.1) && (famInt64S.q a.2.2.1 b.2.2.1 && (famExprS.q a.2.2.2.1 b.2.2.2.1 && famExprS.q a.2.2.2.2 b.2.2.2.2))))
theorem szProofStep_in (m : Stp) (l : Int) (h1 : 0 ≤ l) (h2 : l ≤ 1048576) : -1 ≤ szProofStep m l ∧ szProofStep m l ≤ l := by
 refine in_tr (Int.le_refl l) (nx_in (famInt64S.s_in m.2.2.1 l h1 (by omega)) h1 (by omega) fun y0 a0 b0 => ?_)
 refine in_tr b0 (nx_in (famExprS.s_in m.2.2.2.1 y0 a0 (by omega)) a0 (by omega) fun y1 a1 b1 => ?_)
 refine in_tr b1 (nx_in (famExprS.s_in m.2.2.2.2 y1 a1 (by omega)) a1 (by omega) fun y2 a2 b2 => ?_)
 exact ⟨by omega, b2⟩
theorem szProofStep_fit (m : Stp) (l : Int) (h2 : l ≤ 1048576) (h1 : 0 ≤ l) (h : 0 ≤ szProofStep m l) : fitProofStep m := by
 obtain ⟨p0, h⟩ := nx_fit h
 have e0 := famInt64S.s_fit m.2.2.1 l (by omega) h1 p0
 have b0 := famInt64S.s_in m.2.2.1 l h1 (by omega)
 obtain ⟨p1, h⟩ := nx_fit h
 have e1 := famExprS.s_fit m.2.2.2.1 _ (by omega) p0 p1
 have b1 := famExprS.s_in m.2.2.2.1 (famInt64S.s m.2.2.1 l) p0 (by omega)
 obtain ⟨p2, h⟩ := nx_fit h
 have e2 := famExprS.s_fit m.2.2.2.2 _ (by omega) p1 p2
 have b2 := famExprS.s_in m.2.2.2.2 (famExprS.s m.2.2.2.1 (famInt64S.s m.2.2.1 l)) p1 (by omega)
 exact ⟨e0, e1, e2⟩
theorem af56 (m : Stp) (l : Int) (h1 : 0 ≤ l) (h2 : l ≤ 1048576) : AF Tryd.prog 56 [eSt m, eI l] (.own (eI (szProofStep m l))) := by
 refine af_of_res res56 mixed rfl fun _ => ?_
 simp +contextual -implicitDefEqProofs only [rc56, eSt, eS, go_sem, eI, eB, ↓reduceIte, Nat.reduceEqDiff, Nat.reduceAdd, Nat.reduceLeDiff, Nat.reduceMul, Nat.reduceBEq, Nat.reduceBneDiff, Nat.reduceLT, Nat.reduceSub]
 refine callQ_self ?_ (famInt64S.afS m.2.2.1 l (by omega) (by omega)) ?_
 ·first | exact rfl | (simp only [eE_eta]; exact rfl)
 simp +contextual -implicitDefEqProofs only [eSt, eS, go_sem, eI, eB, ↓reduceIte, Nat.reduceEqDiff, Nat.reduceAdd, Nat.reduceLeDiff, Nat.reduceMul, Nat.reduceBEq, Nat.reduceBneDiff, Nat.reduceLT, Nat.reduceSub]
 have b0 := famInt64S.s_in m.2.2.1 l (by omega) (by omega)
 refine ⟨fun h => D.Le.sc_eq (by simp only [szProofStep]; rw [nx_neg h]), fun g0 => ?_⟩
 refine callQ_self ?_ (famExprS.afS m.2.2.2.1 (famInt64S.s m.2.2.1 l) (by omega) (by omega)) ?_
 ·first | exact rfl | (simp only [eE_eta]; exact rfl)
 simp +contextual -implicitDefEqProofs only [eSt, eS, go_sem, eI, eB, ↓reduceIte, Nat.reduceEqDiff, Nat.reduceAdd, Nat.reduceLeDiff, Nat.reduceMul, Nat.reduceBEq, Nat.reduceBneDiff, Nat.reduceLT, Nat.reduceSub]
 have b1 := famExprS.s_in m.2.2.2.1 (famInt64S.s m.2.2.1 l) (by omega) (by omega)
 refine ⟨fun h => D.Le.sc_eq (by simp only [szProofStep]; rw [nx_pos g0, nx_neg h]), fun g1 => ?_⟩
 refine callQ_self ?_ (famExprS.afS m.2.2.2.2 (famExprS.s m.2.2.2.1 (famInt64S.s m.2.2.1 l)) (by omega) (by omega)) ?_
 ·first | exact rfl | (simp only [eE_eta]; exact rfl)
 simp +contextual -implicitDefEqProofs only [eSt, eS, go_sem, eI, eB, ↓reduceIte, Nat.reduceEqDiff, Nat.reduceAdd, Nat.reduceLeDiff, Nat.reduceMul, Nat.reduceBEq, Nat.reduceBneDiff, Nat.reduceLT, Nat.reduceSub]
 have b2 := famExprS.s_in m.2.2.2.2 (famExprS.s m.2.2.2.1 (famInt64S.s m.2.2.1 l)) (by omega) (by omega)
 refine ⟨fun h => D.Le.sc_eq (by simp only [szProofStep]; rw [nx_pos g0, nx_pos g1, nx_neg h]), fun g2 => ?_⟩
 exact D.Le.sc_eq (by simp only [szProofStep]; rw [nx_pos g0, nx_pos g1, nx_pos g2])
theorem af64 (m : Stp) (h : fitProofStep m) : AF Tryd.prog 64 [eSt m] (.own (eSt (tProofStep m))) := by
 refine af_of_res res64 mixed rfl fun _ => ?_
 simp +contextual -implicitDefEqProofs only [rc64, eSt, eS, tProofStep, famInt64S_t, famExprS_t, go_sem, eI, eB, ↓reduceIte, Nat.reduceEqDiff, Nat.reduceAdd, Nat.reduceLeDiff, Nat.reduceMul, Nat.reduceBEq, Nat.reduceBneDiff, Nat.reduceLT, Nat.reduceSub]
 refine callQ_self ?_ (famInt64S.afT m.2.2.1 h.1) ?_
 ·first | exact rfl | (simp only [eE_eta]; exact rfl)
 simp +contextual -implicitDefEqProofs only [eSt, eS, tProofStep, famInt64S_t, famExprS_t, go_sem, eI, eB, ↓reduceIte, Nat.reduceEqDiff, Nat.reduceAdd, Nat.reduceLeDiff, Nat.reduceMul, Nat.reduceBEq, Nat.reduceBneDiff, Nat.reduceLT, Nat.reduceSub]
 refine callQ_self ?_ (famExprS.afT m.2.2.2.1 h.2.1) ?_
 ·first | exact rfl | (simp only [eE_eta]; exact rfl)
 simp +contextual -implicitDefEqProofs only [eSt, eS, tProofStep, famInt64S_t, famExprS_t, go_sem, eI, eB, ↓reduceIte, Nat.reduceEqDiff, Nat.reduceAdd, Nat.reduceLeDiff, Nat.reduceMul, Nat.reduceBEq, Nat.reduceBneDiff, Nat.reduceLT, Nat.reduceSub]
 refine callQ_self ?_ (famExprS.afT m.2.2.2.2 h.2.2) ?_
 ·first | exact rfl | (simp only [eE_eta]; exact rfl)
 simp +contextual -implicitDefEqProofs only [eSt, eS, tProofStep, famInt64S_t, famExprS_t, go_sem, eI, eB, ↓reduceIte, Nat.reduceEqDiff, Nat.reduceAdd, Nat.reduceLeDiff, Nat.reduceMul, Nat.reduceBEq, Nat.reduceBneDiff, Nat.reduceLT, Nat.reduceSub]
theorem af72 (a b : Stp) : AF Tryd.prog 72 [eSt a, eSt b] (.own (eB (qProofStep a b))) := by
 refine af_of_res res72 mixed rfl fun _ => ?_
 cases e0 : (a.1 == b.1)
 ·simp +contextual -implicitDefEqProofs only [rc72, qProofStep, bne, Bool.not_true, Bool.not_false, Bool.true_and, Bool.false_and, Bool.and_true, Bool.and_false, eSt, eS, e0, go_sem, eI, eB, ↓reduceIte, Nat.reduceEqDiff, Nat.reduceAdd, Nat.reduceLeDiff, Nat.reduceMul, Nat.reduceBEq, Nat.reduceBneDiff, Nat.reduceLT, Nat.reduceSub]
 cases e1 : (a.2.1 == b.2.1)
 ·simp +contextual -implicitDefEqProofs only [rc72, qProofStep, bne, Bool.not_true, Bool.not_false, Bool.true_and, Bool.false_and, Bool.and_true, Bool.and_false, eSt, eS, e0, e1, go_sem, eI, eB, ↓reduceIte, Nat.reduceEqDiff, Nat.reduceAdd, Nat.reduceLeDiff, Nat.reduceMul, Nat.reduceBEq, Nat.reduceBneDiff, Nat.reduceLT, Nat.reduceSub]
 simp +contextual -implicitDefEqProofs only [rc72, qProofStep, bne, Bool.not_true, Bool.not_false, Bool.true_and, Bool.false_and, Bool.and_true, Bool.and_false, eSt, eS, e0, e1, go_sem, eI, eB, ↓reduceIte, Nat.reduceEqDiff, Nat.reduceAdd, Nat.reduceLeDiff, Nat.reduceMul, Nat.reduceBEq, Nat.reduceBneDiff, Nat.reduceLT, Nat.reduceSub]
 refine callQ_self ?_ (famInt64S.afQ a.2.2.1 b.2.2.1) ?_
 ·first | exact rfl | (simp only [eE_eta]; exact rfl)
 cases e2 : famInt64S.q a.2.2.1 b.2.2.1
 ·simp +contextual -implicitDefEqProofs only [qProofStep, bne, Bool.not_true, Bool.not_false, Bool.true_and, Bool.false_and, Bool.and_true, Bool.and_false, eSt, eS, e0, e1, e2, go_sem, eI, eB, ↓reduceIte, Nat.reduceEqDiff, Nat.reduceAdd, Nat.reduceLeDiff, Nat.reduceMul, Nat.reduceBEq, Nat.reduceBneDiff, Nat.reduceLT, Nat.reduceSub]
 simp +contextual -implicitDefEqProofs only [qProofStep, bne, Bool.not_true, Bool.not_false, Bool.true_and, Bool.false_and, Bool.and_true, Bool.and_false, eSt, eS, e0, e1, e2, go_sem, eI, eB, ↓reduceIte, Nat.reduceEqDiff, Nat.reduceAdd, Nat.reduceLeDiff, Nat.reduceMul, Nat.reduceBEq, Nat.reduceBneDiff, Nat.reduceLT, Nat.reduceSub]
 refine callQ_self ?_ (famExprS.afQ a.2.2.2.1 b.2.2.2.1) ?_
 ·first | exact rfl | (simp only [eE_eta]; exact rfl)
 cases e3 : famExprS.q a.2.2.2.1 b.2.2.2.1
 ·simp +contextual -implicitDefEqProofs only [qProofStep, bne, Bool.not_true, Bool.not_false, Bool.true_and, Bool.false_and, Bool.and_true, Bool.and_false, eSt, eS, e0, e1, e2, e3, go_sem, eI, eB, ↓reduceIte, Nat.reduceEqDiff, Nat.reduceAdd, Nat.reduceLeDiff, Nat.reduceMul, Nat.reduceBEq, Nat.reduceBneDiff, Nat.reduceLT, Nat.reduceSub]
 simp +contextual -implicitDefEqProofs only [qProofStep, bne, Bool.not_true, Bool.not_false, Bool.true_and, Bool.false_and, Bool.and_true, Bool.and_false, eSt, eS, e0, e1, e2, e3, go_sem, eI, eB, ↓reduceIte, Nat.reduceEqDiff, Nat.reduceAdd, Nat.reduceLeDiff, Nat.reduceMul, Nat.reduceBEq, Nat.reduceBneDiff, Nat.reduceLT, Nat.reduceSub]
 refine callQ_self ?_ (famExprS.afQ a.2.2.2.2 b.2.2.2.2) ?_
 ·first | exact rfl | (simp only [eE_eta]; exact rfl)
 cases e4 : famExprS.q a.2.2.2.2 b.2.2.2.2
 ·simp +contextual -implicitDefEqProofs only [qProofStep, bne, Bool.not_true, Bool.not_false, Bool.true_and, Bool.false_and, Bool.and_true, Bool.and_false, eSt, eS, e0, e1, e2, e3, e4, go_sem, eI, eB, ↓reduceIte, Nat.reduceEqDiff, Nat.reduceAdd, Nat.reduceLeDiff, Nat.reduceMul, Nat.reduceBEq, Nat.reduceBneDiff, Nat.reduceLT, Nat.reduceSub]
 ·simp +contextual -implicitDefEqProofs only [qProofStep, bne, Bool.not_true, Bool.not_false, Bool.true_and, Bool.false_and, Bool.and_true, Bool.and_false, eSt, eS, e0, e1, e2, e3, e4, go_sem, eI, eB, ↓reduceIte, Nat.reduceEqDiff, Nat.reduceAdd, Nat.reduceLeDiff, Nat.reduceMul, Nat.reduceBEq, Nat.reduceBneDiff, Nat.reduceLT, Nat.reduceSub]
theorem qProofStep_refl (m : Stp) : qProofStep m m = true := by simp [qProofStep, famInt64S.q_refl, famExprS.q_refl, famExprS.q_refl]
noncomputable def famProofStep : Fam Tryd.prog eSt 56 64 72 := ⟨szProofStep, tProofStep, qProofStep, fitProofStep, szProofStep_in, szProofStep_fit, qProofStep_refl, af56, af64, af72⟩
theorem famProofStep_t (x) : famProofStep.t x = tProofStep x := rfl
noncomputable def famProofStepS : Fam Tryd.prog (eS 5 eSt) 36 44 54 := famC mixed famProofStep encSt ⟨rfl, rfl, rfl⟩ (by omega) res36 res44 res54
theorem famProofStepS_t (x) : famProofStepS.t x = (some false, x.2.map famProofStep.t) := rfl
noncomputable def szClaim (m : Cl) : Int → Int := fun l => nx (famExpr.s m.1 l) (fun l => nx (famExpr.s m.2.1 l) (fun l => nx (famProofStepS.s m.2.2.2.2 l) (fun l => l)))
def fitClaim (m : Cl) : Prop := famExpr.fit m.1 ∧ famExpr.fit m.2.1 ∧ famProofStepS.fit m.2.2.2.2
noncomputable def tClaim (m : Cl) : Cl := (famExpr.t m.1, famExpr.t m.2.1, m.2.2.1, m.2.2.2.1, famProofStepS.t m.2.2.2.2)
noncomputable def qClaim (a b : Cl) : Bool := (famExpr.q a.1 b.1 && (famExpr.q a.2.1 b.2.1 && ((a.2.2.1 == b.2.2.1) && ((a.2.2.2.1 == b.2.2.2.1) && famProofStepS.q a.2.2.2.2 b.2.2.2.2))))
theorem szClaim_in (m : Cl) (l : Int) (h1 : 0 ≤ l) (h2 : l ≤ 1048576) : -1 ≤ szClaim m l ∧ szClaim m l ≤ l := by
 refine in_tr (Int.le_refl l) (nx_in (famExpr.s_in m.1 l h1 (by omega)) h1 (by omega) fun y0 a0 b0 => ?_)
 refine in_tr b0 (nx_in (famExpr.s_in m.2.1 y0 a0 (by omega)) a0 (by omega) fun y1 a1 b1 => ?_)
 refine in_tr b1 (nx_in (famProofStepS.s_in m.2.2.2.2 y1 a1 (by omega)) a1 (by omega) fun y2 a2 b2 => ?_)
 exact ⟨by omega, b2⟩
theorem szClaim_fit (m : Cl) (l : Int) (h2 : l ≤ 1048576) (h1 : 0 ≤ l) (h : 0 ≤ szClaim m l) : fitClaim m := by
 obtain ⟨p0, h⟩ := nx_fit h
 have e0 := famExpr.s_fit m.1 l (by omega) h1 p0
 have b0 := famExpr.s_in m.1 l h1 (by omega)
 obtain ⟨p1, h⟩ := nx_fit h
 have e1 := famExpr.s_fit m.2.1 _ (by omega) p0 p1
 have b1 := famExpr.s_in m.2.1 (famExpr.s m.1 l) p0 (by omega)
 obtain ⟨p2, h⟩ := nx_fit h
 have e2 := famProofStepS.s_fit m.2.2.2.2 _ (by omega) p1 p2
 have b2 := famProofStepS.s_in m.2.2.2.2 (famExpr.s m.2.1 (famExpr.s m.1 l)) p1 (by omega)
 exact ⟨e0, e1, e2⟩
theorem af18 (m : Cl) (l : Int) (h1 : 0 ≤ l) (h2 : l ≤ 1048576) : AF Tryd.prog 18 [eCl m, eI l] (.own (eI (szClaim m l))) := by
 refine af_of_res res18 mixed rfl fun _ => ?_
 simp +contextual -implicitDefEqProofs only [rc18, eCl, eS, go_sem, eI, eB, ↓reduceIte, Nat.reduceEqDiff, Nat.reduceAdd, Nat.reduceLeDiff, Nat.reduceMul, Nat.reduceBEq, Nat.reduceBneDiff, Nat.reduceLT, Nat.reduceSub]
 refine callQ_self ?_ (famExpr.afS m.1 l (by omega) (by omega)) ?_
 ·first | exact rfl | (simp only [eE_eta]; exact rfl)
 simp +contextual -implicitDefEqProofs only [eCl, eS, go_sem, eI, eB, ↓reduceIte, Nat.reduceEqDiff, Nat.reduceAdd, Nat.reduceLeDiff, Nat.reduceMul, Nat.reduceBEq, Nat.reduceBneDiff, Nat.reduceLT, Nat.reduceSub]
 have b0 := famExpr.s_in m.1 l (by omega) (by omega)
 refine ⟨fun h => D.Le.sc_eq (by simp only [szClaim]; rw [nx_neg h]), fun g0 => ?_⟩
 refine callQ_self ?_ (famExpr.afS m.2.1 (famExpr.s m.1 l) (by omega) (by omega)) ?_
 ·first | exact rfl | (simp only [eE_eta]; exact rfl)
 simp +contextual -implicitDefEqProofs only [eCl, eS, go_sem, eI, eB, ↓reduceIte, Nat.reduceEqDiff, Nat.reduceAdd, Nat.reduceLeDiff, Nat.reduceMul, Nat.reduceBEq, Nat.reduceBneDiff, Nat.reduceLT, Nat.reduceSub]
 have b1 := famExpr.s_in m.2.1 (famExpr.s m.1 l) (by omega) (by omega)
 refine ⟨fun h => D.Le.sc_eq (by simp only [szClaim]; rw [nx_pos g0, nx_neg h]), fun g1 => ?_⟩
 refine callQ_self ?_ (famProofStepS.afS m.2.2.2.2 (famExpr.s m.2.1 (famExpr.s m.1 l)) (by omega) (by omega)) ?_
 ·first | exact rfl | (simp only [eE_eta]; exact rfl)
 simp +contextual -implicitDefEqProofs only [eCl, eS, go_sem, eI, eB, ↓reduceIte, Nat.reduceEqDiff, Nat.reduceAdd, Nat.reduceLeDiff, Nat.reduceMul, Nat.reduceBEq, Nat.reduceBneDiff, Nat.reduceLT, Nat.reduceSub]
 have b2 := famProofStepS.s_in m.2.2.2.2 (famExpr.s m.2.1 (famExpr.s m.1 l)) (by omega) (by omega)
 refine ⟨fun h => D.Le.sc_eq (by simp only [szClaim]; rw [nx_pos g0, nx_pos g1, nx_neg h]), fun g2 => ?_⟩
 exact D.Le.sc_eq (by simp only [szClaim]; rw [nx_pos g0, nx_pos g1, nx_pos g2])
theorem af24 (m : Cl) (h : fitClaim m) : AF Tryd.prog 24 [eCl m] (.own (eCl (tClaim m))) := by
 refine af_of_res res24 mixed rfl fun _ => ?_
 simp +contextual -implicitDefEqProofs only [rc24, eCl, eS, tClaim, famExpr_t, famProofStepS_t, eE_te, tE_k, tE_n, tE_nn, tE_ks, go_sem, eI, eB, ↓reduceIte, Nat.reduceEqDiff, Nat.reduceAdd, Nat.reduceLeDiff, Nat.reduceMul, Nat.reduceBEq, Nat.reduceBneDiff, Nat.reduceLT, Nat.reduceSub]
 refine callQ_self ?_ (famExpr.afT m.1 h.1) ?_
 ·first | exact rfl | (simp only [eE_eta]; exact rfl)
 simp +contextual -implicitDefEqProofs only [eCl, eS, tClaim, famExpr_t, famProofStepS_t, eE_te, tE_k, tE_n, tE_nn, tE_ks, go_sem, eI, eB, ↓reduceIte, Nat.reduceEqDiff, Nat.reduceAdd, Nat.reduceLeDiff, Nat.reduceMul, Nat.reduceBEq, Nat.reduceBneDiff, Nat.reduceLT, Nat.reduceSub]
 refine callQ_self ?_ (famExpr.afT m.2.1 h.2.1) ?_
 ·first | exact rfl | (simp only [eE_eta]; exact rfl)
 simp +contextual -implicitDefEqProofs only [eCl, eS, tClaim, famExpr_t, famProofStepS_t, eE_te, tE_k, tE_n, tE_nn, tE_ks, go_sem, eI, eB, ↓reduceIte, Nat.reduceEqDiff, Nat.reduceAdd, Nat.reduceLeDiff, Nat.reduceMul, Nat.reduceBEq, Nat.reduceBneDiff, Nat.reduceLT, Nat.reduceSub]
 refine callQ_self ?_ (famProofStepS.afT m.2.2.2.2 h.2.2) ?_
 ·first | exact rfl | (simp only [eE_eta]; exact rfl)
 simp +contextual -implicitDefEqProofs only [eCl, eS, tClaim, famExpr_t, famProofStepS_t, eE_te, tE_k, tE_n, tE_nn, tE_ks, go_sem, eI, eB, ↓reduceIte, Nat.reduceEqDiff, Nat.reduceAdd, Nat.reduceLeDiff, Nat.reduceMul, Nat.reduceBEq, Nat.reduceBneDiff, Nat.reduceLT, Nat.reduceSub]
theorem af34 (a b : Cl) : AF Tryd.prog 34 [eCl a, eCl b] (.own (eB (qClaim a b))) := by
 refine af_of_res res34 mixed rfl fun _ => ?_
 simp +contextual -implicitDefEqProofs only [rc34, qClaim, bne, Bool.not_true, Bool.not_false, Bool.true_and, Bool.false_and, Bool.and_true, Bool.and_false, eCl, eS, go_sem, eI, eB, ↓reduceIte, Nat.reduceEqDiff, Nat.reduceAdd, Nat.reduceLeDiff, Nat.reduceMul, Nat.reduceBEq, Nat.reduceBneDiff, Nat.reduceLT, Nat.reduceSub]
 refine callQ_self ?_ (famExpr.afQ a.1 b.1) ?_
 ·first | exact rfl | (simp only [eE_eta]; exact rfl)
 cases e0 : famExpr.q a.1 b.1
 ·simp +contextual -implicitDefEqProofs only [qClaim, bne, Bool.not_true, Bool.not_false, Bool.true_and, Bool.false_and, Bool.and_true, Bool.and_false, eCl, eS, e0, go_sem, eI, eB, ↓reduceIte, Nat.reduceEqDiff, Nat.reduceAdd, Nat.reduceLeDiff, Nat.reduceMul, Nat.reduceBEq, Nat.reduceBneDiff, Nat.reduceLT, Nat.reduceSub]
 simp +contextual -implicitDefEqProofs only [qClaim, bne, Bool.not_true, Bool.not_false, Bool.true_and, Bool.false_and, Bool.and_true, Bool.and_false, eCl, eS, e0, go_sem, eI, eB, ↓reduceIte, Nat.reduceEqDiff, Nat.reduceAdd, Nat.reduceLeDiff, Nat.reduceMul, Nat.reduceBEq, Nat.reduceBneDiff, Nat.reduceLT, Nat.reduceSub]
 refine callQ_self ?_ (famExpr.afQ a.2.1 b.2.1) ?_
 ·first | exact rfl | (simp only [eE_eta]; exact rfl)
 cases e1 : famExpr.q a.2.1 b.2.1
 ·simp +contextual -implicitDefEqProofs only [qClaim, bne, Bool.not_true, Bool.not_false, Bool.true_and, Bool.false_and, Bool.and_true, Bool.and_false, eCl, eS, e0, e1, go_sem, eI, eB, ↓reduceIte, Nat.reduceEqDiff, Nat.reduceAdd, Nat.reduceLeDiff, Nat.reduceMul, Nat.reduceBEq, Nat.reduceBneDiff, Nat.reduceLT, Nat.reduceSub]
 cases e2 : (a.2.2.1 == b.2.2.1)
 ·simp +contextual -implicitDefEqProofs only [qClaim, bne, Bool.not_true, Bool.not_false, Bool.true_and, Bool.false_and, Bool.and_true, Bool.and_false, eCl, eS, e0, e1, e2, go_sem, eI, eB, ↓reduceIte, Nat.reduceEqDiff, Nat.reduceAdd, Nat.reduceLeDiff, Nat.reduceMul, Nat.reduceBEq, Nat.reduceBneDiff, Nat.reduceLT, Nat.reduceSub]
 cases e3 : (a.2.2.2.1 == b.2.2.2.1)
 ·simp +contextual -implicitDefEqProofs only [qClaim, bne, Bool.not_true, Bool.not_false, Bool.true_and, Bool.false_and, Bool.and_true, Bool.and_false, eCl, eS, e0, e1, e2, e3, go_sem, eI, eB, ↓reduceIte, Nat.reduceEqDiff, Nat.reduceAdd, Nat.reduceLeDiff, Nat.reduceMul, Nat.reduceBEq, Nat.reduceBneDiff, Nat.reduceLT, Nat.reduceSub]
 simp +contextual -implicitDefEqProofs only [qClaim, bne, Bool.not_true, Bool.not_false, Bool.true_and, Bool.false_and, Bool.and_true, Bool.and_false, eCl, eS, e0, e1, e2, e3, go_sem, eI, eB, ↓reduceIte, Nat.reduceEqDiff, Nat.reduceAdd, Nat.reduceLeDiff, Nat.reduceMul, Nat.reduceBEq, Nat.reduceBneDiff, Nat.reduceLT, Nat.reduceSub]
 refine callQ_self ?_ (famProofStepS.afQ a.2.2.2.2 b.2.2.2.2) ?_
 ·first | exact rfl | (simp only [eE_eta]; exact rfl)
 cases e4 : famProofStepS.q a.2.2.2.2 b.2.2.2.2
 ·simp +contextual -implicitDefEqProofs only [qClaim, bne, Bool.not_true, Bool.not_false, Bool.true_and, Bool.false_and, Bool.and_true, Bool.and_false, eCl, eS, e0, e1, e2, e3, e4, go_sem, eI, eB, ↓reduceIte, Nat.reduceEqDiff, Nat.reduceAdd, Nat.reduceLeDiff, Nat.reduceMul, Nat.reduceBEq, Nat.reduceBneDiff, Nat.reduceLT, Nat.reduceSub]
 ·simp +contextual -implicitDefEqProofs only [qClaim, bne, Bool.not_true, Bool.not_false, Bool.true_and, Bool.false_and, Bool.and_true, Bool.and_false, eCl, eS, e0, e1, e2, e3, e4, go_sem, eI, eB, ↓reduceIte, Nat.reduceEqDiff, Nat.reduceAdd, Nat.reduceLeDiff, Nat.reduceMul, Nat.reduceBEq, Nat.reduceBneDiff, Nat.reduceLT, Nat.reduceSub]
theorem qClaim_refl (m : Cl) : qClaim m m = true := by simp [qClaim, famExpr.q_refl, famExpr.q_refl, famProofStepS.q_refl]
noncomputable def famClaim : Fam Tryd.prog eCl 18 24 34 := ⟨szClaim, tClaim, qClaim, fitClaim, szClaim_in, szClaim_fit, qClaim_refl, af18, af24, af34⟩
theorem famClaim_t (x) : famClaim.t x = tClaim x := rfl
noncomputable def famClaimS : Fam Tryd.prog (eS 9 eCl) 9 13 17 := famC mixed famClaim encCl ⟨rfl, rfl, rfl⟩ (by omega) res9 res13 res17
theorem famClaimS_t (x) : famClaimS.t x = (some false, x.2.map famClaim.t) := rfl
noncomputable def szProof (m : Pf) : Int → Int := fun l => nx (famClaimS.s m.2 l) (fun l => l)
def fitProof (m : Pf) : Prop := famClaimS.fit m.2
noncomputable def tProof (m : Pf) : Pf := (m.1, famClaimS.t m.2)
noncomputable def qProof (a b : Pf) : Bool := (qG a.1 b.1 && famClaimS.q a.2 b.2)
theorem szProof_in (m : Pf) (l : Int) (h1 : 0 ≤ l) (h2 : l ≤ 1048576) : -1 ≤ szProof m l ∧ szProof m l ≤ l := by
 refine in_tr (Int.le_refl l) (nx_in (famClaimS.s_in m.2 l h1 (by omega)) h1 (by omega) fun y0 a0 b0 => ?_)
 exact ⟨by omega, b0⟩
theorem szProof_fit (m : Pf) (l : Int) (h2 : l ≤ 1048576) (h1 : 0 ≤ l) (h : 0 ≤ szProof m l) : fitProof m := by
 obtain ⟨p0, h⟩ := nx_fit h
 have e0 := famClaimS.s_fit m.2 l (by omega) h1 p0
 have b0 := famClaimS.s_in m.2 l h1 (by omega)
 exact e0
theorem af4 (m : Pf) (l : Int) (h1 : 0 ≤ l) (h2 : l ≤ 1048576) : AF Tryd.prog 4 [ePf m, eI l] (.own (eI (szProof m l))) := by
 refine af_of_res res4 mixed rfl fun _ => ?_
 simp +contextual -implicitDefEqProofs only [rc4, ePf, eG, eS, go_sem, eI, eB, ↓reduceIte, Nat.reduceEqDiff, Nat.reduceAdd, Nat.reduceLeDiff, Nat.reduceMul, Nat.reduceBEq, Nat.reduceBneDiff, Nat.reduceLT, Nat.reduceSub]
 refine callQ_self ?_ (famClaimS.afS m.2 l (by omega) (by omega)) ?_
 ·first | exact rfl | (simp only [eE_eta]; exact rfl)
 simp +contextual -implicitDefEqProofs only [ePf, eG, eS, go_sem, eI, eB, ↓reduceIte, Nat.reduceEqDiff, Nat.reduceAdd, Nat.reduceLeDiff, Nat.reduceMul, Nat.reduceBEq, Nat.reduceBneDiff, Nat.reduceLT, Nat.reduceSub]
 have b0 := famClaimS.s_in m.2 l (by omega) (by omega)
 refine ⟨fun h => D.Le.sc_eq (by simp only [szProof]; rw [nx_neg h]), fun g0 => ?_⟩
 exact D.Le.sc_eq (by simp only [szProof]; rw [nx_pos g0])
theorem af6 (m : Pf) (h : fitProof m) : AF Tryd.prog 6 [ePf m] (.own (ePf (tProof m))) := by
 refine af_of_res res6 mixed rfl fun _ => ?_
 simp +contextual -implicitDefEqProofs only [rc6, ePf, eG, eS, tProof, famClaimS_t, go_sem, eI, eB, ↓reduceIte, Nat.reduceEqDiff, Nat.reduceAdd, Nat.reduceLeDiff, Nat.reduceMul, Nat.reduceBEq, Nat.reduceBneDiff, Nat.reduceLT, Nat.reduceSub]
 refine callQ_self ?_ (af12 m.1) ?_
 ·first | exact rfl | (simp only [eE_eta]; exact rfl)
 simp +contextual -implicitDefEqProofs only [ePf, eG, eS, tProof, famClaimS_t, go_sem, eI, eB, ↓reduceIte, Nat.reduceEqDiff, Nat.reduceAdd, Nat.reduceLeDiff, Nat.reduceMul, Nat.reduceBEq, Nat.reduceBneDiff, Nat.reduceLT, Nat.reduceSub]
 refine callQ_self ?_ (famClaimS.afT m.2 h) ?_
 ·first | exact rfl | (simp only [eE_eta]; exact rfl)
 simp +contextual -implicitDefEqProofs only [ePf, eG, eS, tProof, famClaimS_t, go_sem, eI, eB, ↓reduceIte, Nat.reduceEqDiff, Nat.reduceAdd, Nat.reduceLeDiff, Nat.reduceMul, Nat.reduceBEq, Nat.reduceBneDiff, Nat.reduceLT, Nat.reduceSub]
theorem af8 (a b : Pf) : AF Tryd.prog 8 [ePf a, ePf b] (.own (eB (qProof a b))) := by
 refine af_of_res res8 mixed rfl fun _ => ?_
 simp +contextual -implicitDefEqProofs only [rc8, qProof, bne, Bool.not_true, Bool.not_false, Bool.true_and, Bool.false_and, Bool.and_true, Bool.and_false, ePf, eG, eS, go_sem, eI, eB, ↓reduceIte, Nat.reduceEqDiff, Nat.reduceAdd, Nat.reduceLeDiff, Nat.reduceMul, Nat.reduceBEq, Nat.reduceBneDiff, Nat.reduceLT, Nat.reduceSub]
 refine callQ_self ?_ (af16 a.1 b.1) ?_
 ·first | exact rfl | (simp only [eE_eta]; exact rfl)
 cases e0 : qG a.1 b.1
 ·simp +contextual -implicitDefEqProofs only [qProof, bne, Bool.not_true, Bool.not_false, Bool.true_and, Bool.false_and, Bool.and_true, Bool.and_false, ePf, eG, eS, e0, go_sem, eI, eB, ↓reduceIte, Nat.reduceEqDiff, Nat.reduceAdd, Nat.reduceLeDiff, Nat.reduceMul, Nat.reduceBEq, Nat.reduceBneDiff, Nat.reduceLT, Nat.reduceSub]
 simp +contextual -implicitDefEqProofs only [qProof, bne, Bool.not_true, Bool.not_false, Bool.true_and, Bool.false_and, Bool.and_true, Bool.and_false, ePf, eG, eS, e0, go_sem, eI, eB, ↓reduceIte, Nat.reduceEqDiff, Nat.reduceAdd, Nat.reduceLeDiff, Nat.reduceMul, Nat.reduceBEq, Nat.reduceBneDiff, Nat.reduceLT, Nat.reduceSub]
 refine callQ_self ?_ (famClaimS.afQ a.2 b.2) ?_
 ·first | exact rfl | (simp only [eE_eta]; exact rfl)
 cases e1 : famClaimS.q a.2 b.2
 ·simp +contextual -implicitDefEqProofs only [qProof, bne, Bool.not_true, Bool.not_false, Bool.true_and, Bool.false_and, Bool.and_true, Bool.and_false, ePf, eG, eS, e0, e1, go_sem, eI, eB, ↓reduceIte, Nat.reduceEqDiff, Nat.reduceAdd, Nat.reduceLeDiff, Nat.reduceMul, Nat.reduceBEq, Nat.reduceBneDiff, Nat.reduceLT, Nat.reduceSub]
 ·simp +contextual -implicitDefEqProofs only [qProof, bne, Bool.not_true, Bool.not_false, Bool.true_and, Bool.false_and, Bool.and_true, Bool.and_false, ePf, eG, eS, e0, e1, go_sem, eI, eB, ↓reduceIte, Nat.reduceEqDiff, Nat.reduceAdd, Nat.reduceLeDiff, Nat.reduceMul, Nat.reduceBEq, Nat.reduceBneDiff, Nat.reduceLT, Nat.reduceSub]
theorem qProof_refl (m : Pf) : qProof m m = true := by simp [qProof, qG, famClaimS.q_refl]
noncomputable def famProof : Fam Tryd.prog ePf 4 6 8 := ⟨szProof, tProof, qProof, fitProof, szProof_in, szProof_fit, qProof_refl, af4, af6, af8⟩
theorem famProof_t (x) : famProof.t x = tProof x := rfl
theorem law (a : Pf) : AF Tryd.prog 3 [ePf a] (.own (eB true)) := by
 refine af_of_res res3 mixed rfl fun hbd => ?_
 simp +contextual -implicitDefEqProofs only [rc3, eG, ePf, eS, famProof_t, tProof, famClaimS_t, bne_self_eq_false, go_sem, eI, eB, ↓reduceIte, Nat.reduceEqDiff, Nat.reduceAdd, Nat.reduceLeDiff, Nat.reduceMul, Nat.reduceBEq, Nat.reduceBneDiff, Nat.reduceLT, Nat.reduceSub]
 refine callQ_self (ds := [ePf a, eI 1048576]) ?_ (famProof.afS a 1048576 (by omega) (by omega)) ?_
 ·simp only [eG, ePf, eS, famProof_t, tProof, famClaimS_t, bne_self_eq_false]; exact rfl
 simp +contextual -implicitDefEqProofs only [eG, ePf, eS, famProof_t, tProof, famClaimS_t, bne_self_eq_false, go_sem, eI, eB, ↓reduceIte, Nat.reduceEqDiff, Nat.reduceAdd, Nat.reduceLeDiff, Nat.reduceMul, Nat.reduceBEq, Nat.reduceBneDiff, Nat.reduceLT, Nat.reduceSub]
 have sb0 := famProof.s_in a 1048576 (by omega) (by omega)
 refine fun hs0 => ?_
 have hf0 := famProof.s_fit a 1048576 (by omega) (by omega) (by omega)
 refine callQ_self (ds := [ePf a]) ?_ (famProof.afT a hf0) ?_
 ·simp only [eG, ePf, eS, famProof_t, tProof, famClaimS_t, bne_self_eq_false]; exact rfl
 simp +contextual -implicitDefEqProofs only [eT, eG, ePf, eS, famProof_t, tProof, famClaimS_t, bne_self_eq_false, go_sem, eI, eB, ↓reduceIte, Nat.reduceEqDiff, Nat.reduceAdd, Nat.reduceLeDiff, Nat.reduceMul, Nat.reduceBEq, Nat.reduceBneDiff, Nat.reduceLT, Nat.reduceSub]
 have hsp := af5 (famProof.t a)
 have him := af7 (famProof.t a)
 generalize txtPf (famProof.t a) = tx at hsp him
 refine callQ_self (ds := [ePf (famProof.t a)]) ?_ (hsp) ?_
 ·simp only [eG, ePf, eS, famProof_t, tProof, famClaimS_t, bne_self_eq_false]; exact rfl
 simp +contextual -implicitDefEqProofs only [eT, eG, ePf, eS, famProof_t, tProof, famClaimS_t, bne_self_eq_false, go_sem, eI, eB, ↓reduceIte, Nat.reduceEqDiff, Nat.reduceAdd, Nat.reduceLeDiff, Nat.reduceMul, Nat.reduceBEq, Nat.reduceBneDiff, Nat.reduceLT, Nat.reduceSub]
 refine callQ_self (ds := [ePf a]) ?_ (famProof.afT a hf0) ?_
 ·simp only [eG, ePf, eS, famProof_t, tProof, famClaimS_t, bne_self_eq_false]; exact rfl
 simp +contextual -implicitDefEqProofs only [eT, eG, ePf, eS, famProof_t, tProof, famClaimS_t, bne_self_eq_false, go_sem, eI, eB, ↓reduceIte, Nat.reduceEqDiff, Nat.reduceAdd, Nat.reduceLeDiff, Nat.reduceMul, Nat.reduceBEq, Nat.reduceBneDiff, Nat.reduceLT, Nat.reduceSub]
 refine callQ_self (ds := [ePf (famProof.t a)]) ?_ (him) ?_
 ·simp only [eG, ePf, eS, famProof_t, tProof, famClaimS_t, bne_self_eq_false]; exact rfl
 simp +contextual -implicitDefEqProofs only [eT, beq_self_eq_true, bne_self_eq_false, eG, ePf, eS, famProof_t, tProof, famClaimS_t, go_sem, eI, eB, ↓reduceIte, Nat.reduceEqDiff, Nat.reduceAdd, Nat.reduceLeDiff, Nat.reduceMul, Nat.reduceBEq, Nat.reduceBneDiff, Nat.reduceLT, Nat.reduceSub]
 refine callQ_self (ds := [ePf a]) ?_ (famProof.afT a hf0) ?_
 ·simp only [eG, ePf, eS, famProof_t, tProof, famClaimS_t, bne_self_eq_false]; exact rfl
 simp +contextual -implicitDefEqProofs only [eT, eG, ePf, eS, famProof_t, tProof, famClaimS_t, bne_self_eq_false, go_sem, eI, eB, ↓reduceIte, Nat.reduceEqDiff, Nat.reduceAdd, Nat.reduceLeDiff, Nat.reduceMul, Nat.reduceBEq, Nat.reduceBneDiff, Nat.reduceLT, Nat.reduceSub]
 refine callQ_self (ds := [ePf (famProof.t a), ePf (famProof.t a)]) ?_ (famProof.afQ (famProof.t a) (famProof.t a)) ?_
 ·simp only [eG, ePf, eS, famProof_t, tProof, famClaimS_t, bne_self_eq_false]; exact rfl
 simp +contextual -implicitDefEqProofs only [famProof.q_refl, Bool.not_true, eT, eG, ePf, eS, famProof_t, tProof, famClaimS_t, bne_self_eq_false, go_sem, eI, eB, ↓reduceIte, Nat.reduceEqDiff, Nat.reduceAdd, Nat.reduceLeDiff, Nat.reduceMul, Nat.reduceBEq, Nat.reduceBneDiff, Nat.reduceLT, Nat.reduceSub]
end Go.Ax
