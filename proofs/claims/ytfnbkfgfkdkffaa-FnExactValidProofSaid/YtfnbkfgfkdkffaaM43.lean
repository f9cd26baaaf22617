/- Contracts of functions of the seat, proved over the engine. No condition. -/
import Derived.Test.YtfnbkfgfkdkffaaX58
import Derived.Test.YtfnbkfgfkdkffaaChecked
set_option linter.unusedSimpArgs false
set_option linter.unusedVariables false
set_option linter.unnecessarySimpa false
namespace Go.Ax
open Go.Proofs
set_option linter.unusedSimpArgs false
theorem mixed : Try.prog.follows .mixedOrders = true := by kernel_rfl
theorem res91 : resF Try.prog 91 = some (27, cSzC 68 3 true, [.t 4]) := by kernel_rfl
theorem res68 : resF Try.prog 68 = some (12, k_szExpr 91, [.t 4]) := by kernel_rfl
theorem res110 : resF Try.prog 110 = some (12, cSzP, [.t 4]) := by kernel_rfl

def rc92 : RC := (.seq (.reg false [⟨none, .box 2 5 (.t 0)⟩, ⟨none, .mv 4 (.c (.sc (.int .i64 0)))⟩]) ((.seq (.reg false [⟨none, .fa 5 2 (.t 2)⟩, ⟨none, .ld 6 false 1 (.t 5)⟩, ⟨none, .mv 7 (.t 1)⟩, ⟨none, .call (some 8) 110 [(.t 6), (.t 7)]⟩, ⟨none, .mv 1 (.t 8)⟩]) ((.seq ((.seq (.reg false [⟨none, .mv 9 (.t 1)⟩, ⟨none, .bin 10 .lss (.t 9) (.c (.sc (.int .i64 0)))⟩]) (.cond (.t 10) ((.seq (.reg false [⟨none, .mv 4 (.c (.sc (.int .i64 (-1))))⟩]) (.ret))) (.skip)))) ((.seq (.reg false [⟨none, .fa 11 3 (.t 2)⟩, ⟨none, .ld 12 false 1 (.t 11)⟩, ⟨none, .mv 13 (.t 1)⟩, ⟨none, .call (some 14) 91 [(.t 12), (.t 13)]⟩, ⟨none, .mv 1 (.t 14)⟩]) ((.seq ((.seq (.reg false [⟨none, .mv 15 (.t 1)⟩, ⟨none, .bin 16 .lss (.t 15) (.c (.sc (.int .i64 0)))⟩]) (.cond (.t 16) ((.seq (.reg false [⟨none, .mv 4 (.c (.sc (.int .i64 (-1))))⟩]) (.ret))) (.skip)))) ((.seq (.reg false [⟨none, .fa 17 4 (.t 2)⟩, ⟨none, .ld 18 false 1 (.t 17)⟩, ⟨none, .mv 19 (.t 1)⟩, ⟨none, .call (some 20) 91 [(.t 18), (.t 19)]⟩, ⟨none, .mv 1 (.t 20)⟩]) ((.seq ((.seq (.reg false [⟨none, .mv 21 (.t 1)⟩, ⟨none, .bin 22 .lss (.t 21) (.c (.sc (.int .i64 0)))⟩]) (.cond (.t 22) ((.seq (.reg false [⟨none, .mv 4 (.c (.sc (.int .i64 (-1))))⟩]) (.ret))) (.skip)))) ((.seq (.reg false [⟨none, .mv 23 (.t 1)⟩, ⟨none, .mv 4 (.t 23)⟩]) (.ret))))))))))))))))
theorem res92 : resF Try.prog 92 = some (24, rc92, [.t 4]) := by kernel_rfl
theorem res69 : resF Try.prog 69 = some (27, cSzC 92 5 true, [.t 4]) := by kernel_rfl

def rc48 : RC := (.seq (.reg false [⟨none, .box 2 9 (.t 0)⟩, ⟨none, .mv 4 (.c (.sc (.int .i64 0)))⟩]) ((.seq (.reg false [⟨none, .fa 5 0 (.t 2)⟩, ⟨none, .ld 6 true 3 (.t 5)⟩, ⟨none, .mv 7 (.t 1)⟩, ⟨none, .call (some 8) 68 [(.t 6), (.t 7)]⟩, ⟨none, .mv 1 (.t 8)⟩]) ((.seq ((.seq (.reg false [⟨none, .mv 9 (.t 1)⟩, ⟨none, .bin 10 .lss (.t 9) (.c (.sc (.int .i64 0)))⟩]) (.cond (.t 10) ((.seq (.reg false [⟨none, .mv 4 (.c (.sc (.int .i64 (-1))))⟩]) (.ret))) (.skip)))) ((.seq (.reg false [⟨none, .fa 11 3 (.t 2)⟩, ⟨none, .ld 12 true 3 (.t 11)⟩, ⟨none, .mv 13 (.t 1)⟩, ⟨none, .call (some 14) 68 [(.t 12), (.t 13)]⟩, ⟨none, .mv 1 (.t 14)⟩]) ((.seq ((.seq (.reg false [⟨none, .mv 15 (.t 1)⟩, ⟨none, .bin 16 .lss (.t 15) (.c (.sc (.int .i64 0)))⟩]) (.cond (.t 16) ((.seq (.reg false [⟨none, .mv 4 (.c (.sc (.int .i64 (-1))))⟩]) (.ret))) (.skip)))) ((.seq (.reg false [⟨none, .fa 17 8 (.t 2)⟩, ⟨none, .ld 18 false 1 (.t 17)⟩, ⟨none, .mv 19 (.t 1)⟩, ⟨none, .call (some 20) 69 [(.t 18), (.t 19)]⟩, ⟨none, .mv 1 (.t 20)⟩]) ((.seq ((.seq (.reg false [⟨none, .mv 21 (.t 1)⟩, ⟨none, .bin 22 .lss (.t 21) (.c (.sc (.int .i64 0)))⟩]) (.cond (.t 22) ((.seq (.reg false [⟨none, .mv 4 (.c (.sc (.int .i64 (-1))))⟩]) (.ret))) (.skip)))) ((.seq (.reg false [⟨none, .mv 23 (.t 1)⟩, ⟨none, .mv 4 (.t 23)⟩]) (.ret))))))))))))))))
theorem res48 : resF Try.prog 48 = some (24, rc48, [.t 4]) := by kernel_rfl
theorem res20 : resF Try.prog 20 = some (27, cSzC 48 9 true, [.t 4]) := by kernel_rfl

def rc5 : RC := (.seq (.reg false [⟨none, .box 2 3 (.t 0)⟩, ⟨none, .mv 4 (.c (.sc (.int .i64 0)))⟩]) ((.seq (.reg false [⟨none, .fa 5 2 (.t 2)⟩, ⟨none, .ld 6 false 1 (.t 5)⟩, ⟨none, .mv 7 (.t 1)⟩, ⟨none, .call (some 8) 20 [(.t 6), (.t 7)]⟩, ⟨none, .mv 1 (.t 8)⟩]) ((.seq ((.seq (.reg false [⟨none, .mv 9 (.t 1)⟩, ⟨none, .bin 10 .lss (.t 9) (.c (.sc (.int .i64 0)))⟩]) (.cond (.t 10) ((.seq (.reg false [⟨none, .mv 4 (.c (.sc (.int .i64 (-1))))⟩]) (.ret))) (.skip)))) ((.seq (.reg false [⟨none, .mv 11 (.t 1)⟩, ⟨none, .mv 4 (.t 11)⟩]) (.ret))))))))
theorem res5 : resF Try.prog 5 = some (12, rc5, [.t 4]) := by kernel_rfl
theorem res22 : resF Try.prog 22 = some (11, k_toSig, [.c 2 2 true]) := by kernel_rfl
theorem af22 : K_toSig Try.prog 22 := a_toSig mixed res22
theorem res99 : resF Try.prog 99 = some (23, cToC 73 3 40 true (.ag [(.sc (.int .i64 0)), (.sc (.int .i64 0)), (.ls (some true) 3 [])]), [.t 2]) := by kernel_rfl
theorem res73 : resF Try.prog 73 = some (15, k_toExpr 99, [.c 2 3 true]) := by kernel_rfl
theorem res13 : resF Try.prog 13 = some (22, cToS 8 (.sc (.int .i64 0)), [.t 2]) := by kernel_rfl

def rc100 : RC := (.seq (.reg false [⟨none, .box 1 5 (.t 0)⟩, ⟨none, .zer 2 5 (.ag [(.sc (.int .i64 0)), (.sc (.bool false)), (.ls (some true) 1 []), (.ls (some true) 3 []), (.ls (some true) 3 [])])⟩]) ((.seq (.reg false [⟨none, .zer 3 5 (.ag [(.sc (.int .i64 0)), (.sc (.bool false)), (.ls (some true) 1 []), (.ls (some true) 3 []), (.ls (some true) 3 [])])⟩]) ((.seq (.reg false [⟨none, .fa 4 0 (.t 1)⟩, ⟨none, .ld 5 false 1 (.t 4)⟩, ⟨none, .fa 6 0 (.t 3)⟩, ⟨none, .st 1 (.t 6) (.t 5)⟩]) ((.seq (.reg false [⟨none, .fa 7 1 (.t 1)⟩, ⟨none, .ld 8 false 1 (.t 7)⟩, ⟨none, .fa 9 1 (.t 3)⟩, ⟨none, .st 1 (.t 9) (.t 8)⟩]) ((.seq (.reg false [⟨none, .fa 10 2 (.t 1)⟩, ⟨none, .ld 11 false 1 (.t 10)⟩, ⟨none, .call (some 12) 13 [(.t 11)]⟩, ⟨none, .fa 13 2 (.t 3)⟩, ⟨none, .st 1 (.t 13) (.t 12)⟩]) ((.seq (.reg false [⟨none, .fa 14 3 (.t 1)⟩, ⟨none, .ld 15 false 1 (.t 14)⟩, ⟨none, .call (some 16) 99 [(.t 15)]⟩, ⟨none, .fa 17 3 (.t 3)⟩, ⟨none, .st 1 (.t 17) (.t 16)⟩]) ((.seq (.reg false [⟨none, .fa 18 4 (.t 1)⟩, ⟨none, .ld 19 false 1 (.t 18)⟩, ⟨none, .call (some 20) 99 [(.t 19)]⟩, ⟨none, .fa 21 4 (.t 3)⟩, ⟨none, .st 1 (.t 21) (.t 20)⟩]) ((.seq (.reg false [⟨none, .ld 22 true 5 (.t 3)⟩, ⟨none, .st 5 (.t 2) (.t 22)⟩]) (.ret))))))))))))))))
theorem res100 : resF Try.prog 100 = some (23, rc100, [.c 2 5 true]) := by kernel_rfl
theorem res74 : resF Try.prog 74 = some (23, cToC 100 5 88 true (.ag [(.sc (.int .i64 0)), (.sc (.bool false)), (.ls (some true) 1 []), (.ls (some true) 3 []), (.ls (some true) 3 [])]), [.t 2]) := by kernel_rfl

def rc51 : RC := (.seq (.reg false [⟨none, .box 1 9 (.t 0)⟩, ⟨none, .zer 2 9 (.ag [(.sc (.int .i64 0)), (.sc (.int .i64 0)), (.ls (some true) 3 []), (.sc (.int .i64 0)), (.sc (.int .i64 0)), (.ls (some true) 3 []), (.sc (.int .i64 0)), (.sc (.int .i64 0)), (.ls (some true) 5 [])])⟩]) ((.seq (.reg false [⟨none, .zer 3 9 (.ag [(.sc (.int .i64 0)), (.sc (.int .i64 0)), (.ls (some true) 3 []), (.sc (.int .i64 0)), (.sc (.int .i64 0)), (.ls (some true) 3 []), (.sc (.int .i64 0)), (.sc (.int .i64 0)), (.ls (some true) 5 [])])⟩]) ((.seq (.reg false [⟨none, .fa 4 0 (.t 1)⟩, ⟨none, .ld 5 true 3 (.t 4)⟩, ⟨none, .call (some 6) 73 [(.t 5)]⟩, ⟨none, .fa 7 0 (.t 3)⟩, ⟨none, .st 3 (.t 7) (.t 6)⟩]) ((.seq (.reg false [⟨none, .fa 8 3 (.t 1)⟩, ⟨none, .ld 9 true 3 (.t 8)⟩, ⟨none, .call (some 10) 73 [(.t 9)]⟩, ⟨none, .fa 11 3 (.t 3)⟩, ⟨none, .st 3 (.t 11) (.t 10)⟩]) ((.seq (.reg false [⟨none, .fa 12 6 (.t 1)⟩, ⟨none, .ld 13 false 1 (.t 12)⟩, ⟨none, .fa 14 6 (.t 3)⟩, ⟨none, .st 1 (.t 14) (.t 13)⟩]) ((.seq (.reg false [⟨none, .fa 15 7 (.t 1)⟩, ⟨none, .ld 16 false 1 (.t 15)⟩, ⟨none, .fa 17 7 (.t 3)⟩, ⟨none, .st 1 (.t 17) (.t 16)⟩]) ((.seq (.reg false [⟨none, .fa 18 8 (.t 1)⟩, ⟨none, .ld 19 false 1 (.t 18)⟩, ⟨none, .call (some 20) 74 [(.t 19)]⟩, ⟨none, .fa 21 8 (.t 3)⟩, ⟨none, .st 1 (.t 21) (.t 20)⟩]) ((.seq (.reg false [⟨none, .ld 22 true 9 (.t 3)⟩, ⟨none, .st 9 (.t 2) (.t 22)⟩]) (.ret))))))))))))))))
theorem res51 : resF Try.prog 51 = some (23, rc51, [.c 2 9 true]) := by kernel_rfl
theorem res23 : resF Try.prog 23 = some (23, cToC 51 9 120 true (.ag [(.sc (.int .i64 0)), (.sc (.int .i64 0)), (.ls (some true) 3 []), (.sc (.int .i64 0)), (.sc (.int .i64 0)), (.ls (some true) 3 []), (.sc (.int .i64 0)), (.sc (.int .i64 0)), (.ls (some true) 5 [])]), [.t 2]) := by kernel_rfl

def rc7 : RC := (.seq (.reg false [⟨none, .box 1 3 (.t 0)⟩, ⟨none, .zer 2 3 (.ag [(.sc (.int .i64 0)), (.sc (.int .i64 0)), (.ls (some true) 9 [])])⟩]) ((.seq (.reg false [⟨none, .zer 3 3 (.ag [(.sc (.int .i64 0)), (.sc (.int .i64 0)), (.ls (some true) 9 [])])⟩]) ((.seq (.reg false [⟨none, .fa 4 0 (.t 1)⟩, ⟨none, .ld 5 true 2 (.t 4)⟩, ⟨none, .call (some 6) 22 [(.t 5)]⟩, ⟨none, .fa 7 0 (.t 3)⟩, ⟨none, .st 2 (.t 7) (.t 6)⟩]) ((.seq (.reg false [⟨none, .fa 8 2 (.t 1)⟩, ⟨none, .ld 9 false 1 (.t 8)⟩, ⟨none, .call (some 10) 23 [(.t 9)]⟩, ⟨none, .fa 11 2 (.t 3)⟩, ⟨none, .st 1 (.t 11) (.t 10)⟩]) ((.seq (.reg false [⟨none, .ld 12 true 3 (.t 3)⟩, ⟨none, .st 3 (.t 2) (.t 12)⟩]) (.ret))))))))))
theorem res7 : resF Try.prog 7 = some (13, rc7, [.c 2 3 true]) := by kernel_rfl
theorem res70 : resF Try.prog 70 = some (15, k_l00In, [.t 6]) := by kernel_rfl
theorem af70 : K_l00In Try.prog 70 := a_l00In mixed res70
theorem res49 : resF Try.prog 49 = some (11, k_l01Sig 70, [.t 2]) := by kernel_rfl
theorem af49 : K_l01Sig Try.prog 49 := a_l01Sig mixed res49 af70
theorem res93 : resF Try.prog 93 = some (30, k_l01Left 93, [.t 4]) := by kernel_rfl
theorem af93 : K_l01Left Try.prog 93 := a_l01Left mixed res93
theorem res111 : resF Try.prog 111 = some (10, k_l00Max, [.t 4]) := by kernel_rfl
theorem af111 : K_l00Max Try.prog 111 := a_l00Max mixed res111
theorem res94 : resF Try.prog 94 = some (25, k_l01Depth 94 111, [.t 2]) := by kernel_rfl
theorem af94 : K_l01Depth Try.prog 94 := a_l01Depth mixed res94 af111
theorem res112 : resF Try.prog 112 = some (15, k_l01Kids, [.t 2]) := by kernel_rfl
theorem af112 : K_l01Kids Try.prog 112 := a_l01Kids mixed res112
theorem res113 : resF Try.prog 113 = some (34, k_l01Condition 113 70, [.t 2]) := by kernel_rfl
theorem af113 : K_l01Condition Try.prog 113 := a_l01Condition mixed res113 af70
theorem res95 : resF Try.prog 95 = some (80, k_l01Tree 95 112 70 113, [.t 4]) := by kernel_rfl
theorem af95 : K_l01Tree Try.prog 95 := a_l01Tree mixed res95 af112 af70 af113
theorem res71 : resF Try.prog 71 = some (22, k_l01Ok 49 93 94 95, [.t 4]) := by kernel_rfl
theorem af71 : K_l01Ok Try.prog 71 := a_l01Ok mixed res71 af49 af93 af94 af95
theorem res96 : resF Try.prog 96 = some (2, k_l04AxiomTexts, [.t 0]) := by kernel_rfl
theorem af96 : K_l04AxiomTexts Try.prog 96 := a_l04AxiomTexts mixed res96
theorem res97 : resF Try.prog 97 = some (18, k_l04Valid 71, [.t 4]) := by kernel_rfl
theorem af97 : K_l04Valid Try.prog 97 := a_l04Valid mixed res97 af71
theorem res98 : resF Try.prog 98 = some (15, k_l04Conditions 113, [.t 2]) := by kernel_rfl
theorem af98 : K_l04Conditions Try.prog 98 := a_l04Conditions mixed res98 af113
theorem res72 : resF Try.prog 72 = some (78, k_l04Step 96 70 97 98, [.t 4]) := by kernel_rfl
theorem af72 : K_l04Step Try.prog 72 := a_l04Step mixed res72 af96 af70 af97 af98
theorem res50 : resF Try.prog 50 = some (89, k_l04Claim 71 70 72, [.t 4]) := by kernel_rfl
theorem af50 : K_l04Claim Try.prog 50 := a_l04Claim mixed res50 af71 af70 af72
theorem res21 : resF Try.prog 21 = some (39, k_l04Ok 49 50, [.t 2]) := by kernel_rfl
theorem af21 : K_l04Ok Try.prog 21 := a_l04Ok mixed res21 af49 af50
theorem res6 : resF Try.prog 6 = some (4, k_spValidProof 21, [.t 2]) := by kernel_rfl
theorem af6 : K_spValidProof Try.prog 6 := a_spValidProof mixed res6 af21
theorem res26 : resF Try.prog 26 = some (15, k_within, [.t 6]) := by kernel_rfl
theorem af26 : K_within Try.prog 26 := a_within mixed res26
theorem res24 : resF Try.prog 24 = some (11, k_validSig 26, [.t 2]) := by kernel_rfl
theorem af24 : K_validSig Try.prog 24 := a_validSig mixed res24 af26
theorem res101 : resF Try.prog 101 = some (15, k_kidsOf, [.t 2]) := by kernel_rfl
theorem af101 : K_kidsOf Try.prog 101 := a_kidsOf mixed res101
theorem res76 : resF Try.prog 76 = some (25, k_isCondition 76, [.t 2]) := by kernel_rfl
theorem af76 : K_isCondition Try.prog 76 := a_isCondition mixed res76
theorem res75 : resF Try.prog 75 = some (86, k_shaped 75 101 26 76, [.t 8, .t 9]) := by kernel_rfl
theorem af75 : K_shaped Try.prog 75 := a_shaped mixed res75 af101 af26 af76
theorem res52 : resF Try.prog 52 = some (14, k_isExpr 75, [.t 4]) := by kernel_rfl
theorem af52 : K_isExpr Try.prog 52 := a_isExpr mixed res52 af75
theorem res25 : resF Try.prog 25 = some (20, k_validExprs 52 24, [.t 4]) := by kernel_rfl
theorem af25 : K_validExprs Try.prog 25 := a_validExprs mixed res25 af52 af24
theorem res53 : resF Try.prog 53 = some (19, k_inRange 26, [.t 4]) := by kernel_rfl
theorem af53 : K_inRange Try.prog 53 := a_inRange mixed res53 af26
theorem res54 : resF Try.prog 54 = some (15, k_areConditions 76, [.t 2]) := by kernel_rfl
theorem af54 : K_areConditions Try.prog 54 := a_areConditions mixed res54 af76
theorem res27 : resF Try.prog 27 = some (48, k_isStep 26 53 25 54, [.t 4]) := by kernel_rfl
theorem af27 : K_isStep Try.prog 27 := a_isStep mixed res27 af26 af53 af25 af54
theorem res8 : resF Try.prog 8 = some (84, k_imValidProof 24 25 26 27, [.t 2]) := by kernel_rfl
theorem af8 : K_imValidProof Try.prog 8 := a_imValidProof mixed res8 af24 af25 af26 af27
theorem res28 : resF Try.prog 28 = some (15, k_eqSig, [.t 4]) := by kernel_rfl
theorem af28 : K_eqSig Try.prog 28 := a_eqSig mixed res28
theorem res102 : resF Try.prog 102 = some (27, cEqC 77 3 true, [.t 4]) := by kernel_rfl
theorem res77 : resF Try.prog 77 = some (21, k_eqExpr 102, [.t 4]) := by kernel_rfl
theorem res16 : resF Try.prog 16 = some (26, cEqS, [.t 4]) := by kernel_rfl

def rc103 : RC := (.seq (.reg false [⟨none, .box 2 5 (.t 0)⟩, ⟨none, .box 3 5 (.t 1)⟩, ⟨none, .mv 4 (.c (.sc (.bool false)))⟩]) ((.seq ((.seq (.reg false [⟨none, .fa 5 0 (.t 2)⟩, ⟨none, .ld 6 false 1 (.t 5)⟩, ⟨none, .fa 7 0 (.t 3)⟩, ⟨none, .ld 8 false 1 (.t 7)⟩, ⟨none, .bin 9 .neq (.t 6) (.t 8)⟩]) (.cond (.t 9) ((.seq (.reg false [⟨none, .mv 4 (.c (.sc (.bool false)))⟩]) (.ret))) (.skip)))) ((.seq ((.seq (.reg false [⟨none, .fa 10 1 (.t 2)⟩, ⟨none, .ld 11 false 1 (.t 10)⟩, ⟨none, .fa 12 1 (.t 3)⟩, ⟨none, .ld 13 false 1 (.t 12)⟩, ⟨none, .beq 14 true (.t 11) (.t 13)⟩]) (.cond (.t 14) ((.seq (.reg false [⟨none, .mv 4 (.c (.sc (.bool false)))⟩]) (.ret))) (.skip)))) ((.seq ((.seq (.reg false [⟨none, .fa 15 2 (.t 2)⟩, ⟨none, .ld 16 false 1 (.t 15)⟩, ⟨none, .fa 17 2 (.t 3)⟩, ⟨none, .ld 18 false 1 (.t 17)⟩, ⟨none, .call (some 19) 16 [(.t 16), (.t 18)]⟩, ⟨none, .un 20 .not (.t 19)⟩]) (.cond (.t 20) ((.seq (.reg false [⟨none, .mv 4 (.c (.sc (.bool false)))⟩]) (.ret))) (.skip)))) ((.seq ((.seq (.reg false [⟨none, .fa 21 3 (.t 2)⟩, ⟨none, .ld 22 false 1 (.t 21)⟩, ⟨none, .fa 23 3 (.t 3)⟩, ⟨none, .ld 24 false 1 (.t 23)⟩, ⟨none, .call (some 25) 102 [(.t 22), (.t 24)]⟩, ⟨none, .un 26 .not (.t 25)⟩]) (.cond (.t 26) ((.seq (.reg false [⟨none, .mv 4 (.c (.sc (.bool false)))⟩]) (.ret))) (.skip)))) ((.seq ((.seq (.reg false [⟨none, .fa 27 4 (.t 2)⟩, ⟨none, .ld 28 false 1 (.t 27)⟩, ⟨none, .fa 29 4 (.t 3)⟩, ⟨none, .ld 30 false 1 (.t 29)⟩, ⟨none, .call (some 31) 102 [(.t 28), (.t 30)]⟩, ⟨none, .un 32 .not (.t 31)⟩]) (.cond (.t 32) ((.seq (.reg false [⟨none, .mv 4 (.c (.sc (.bool false)))⟩]) (.ret))) (.skip)))) ((.seq (.reg false [⟨none, .mv 4 (.c (.sc (.bool true)))⟩]) (.ret))))))))))))))
theorem res103 : resF Try.prog 103 = some (33, rc103, [.t 4]) := by kernel_rfl
theorem res78 : resF Try.prog 78 = some (27, cEqC 103 5 true, [.t 4]) := by kernel_rfl

def rc55 : RC := (.seq (.reg false [⟨none, .box 2 9 (.t 0)⟩, ⟨none, .box 3 9 (.t 1)⟩, ⟨none, .mv 4 (.c (.sc (.bool false)))⟩]) ((.seq ((.seq (.reg false [⟨none, .fa 5 0 (.t 2)⟩, ⟨none, .ld 6 true 3 (.t 5)⟩, ⟨none, .fa 7 0 (.t 3)⟩, ⟨none, .ld 8 true 3 (.t 7)⟩, ⟨none, .call (some 9) 77 [(.t 6), (.t 8)]⟩, ⟨none, .un 10 .not (.t 9)⟩]) (.cond (.t 10) ((.seq (.reg false [⟨none, .mv 4 (.c (.sc (.bool false)))⟩]) (.ret))) (.skip)))) ((.seq ((.seq (.reg false [⟨none, .fa 11 3 (.t 2)⟩, ⟨none, .ld 12 true 3 (.t 11)⟩, ⟨none, .fa 13 3 (.t 3)⟩, ⟨none, .ld 14 true 3 (.t 13)⟩, ⟨none, .call (some 15) 77 [(.t 12), (.t 14)]⟩, ⟨none, .un 16 .not (.t 15)⟩]) (.cond (.t 16) ((.seq (.reg false [⟨none, .mv 4 (.c (.sc (.bool false)))⟩]) (.ret))) (.skip)))) ((.seq ((.seq (.reg false [⟨none, .fa 17 6 (.t 2)⟩, ⟨none, .ld 18 false 1 (.t 17)⟩, ⟨none, .fa 19 6 (.t 3)⟩, ⟨none, .ld 20 false 1 (.t 19)⟩, ⟨none, .bin 21 .neq (.t 18) (.t 20)⟩]) (.cond (.t 21) ((.seq (.reg false [⟨none, .mv 4 (.c (.sc (.bool false)))⟩]) (.ret))) (.skip)))) ((.seq ((.seq (.reg false [⟨none, .fa 22 7 (.t 2)⟩, ⟨none, .ld 23 false 1 (.t 22)⟩, ⟨none, .fa 24 7 (.t 3)⟩, ⟨none, .ld 25 false 1 (.t 24)⟩, ⟨none, .bin 26 .neq (.t 23) (.t 25)⟩]) (.cond (.t 26) ((.seq (.reg false [⟨none, .mv 4 (.c (.sc (.bool false)))⟩]) (.ret))) (.skip)))) ((.seq ((.seq (.reg false [⟨none, .fa 27 8 (.t 2)⟩, ⟨none, .ld 28 false 1 (.t 27)⟩, ⟨none, .fa 29 8 (.t 3)⟩, ⟨none, .ld 30 false 1 (.t 29)⟩, ⟨none, .call (some 31) 78 [(.t 28), (.t 30)]⟩, ⟨none, .un 32 .not (.t 31)⟩]) (.cond (.t 32) ((.seq (.reg false [⟨none, .mv 4 (.c (.sc (.bool false)))⟩]) (.ret))) (.skip)))) ((.seq (.reg false [⟨none, .mv 4 (.c (.sc (.bool true)))⟩]) (.ret))))))))))))))
theorem res55 : resF Try.prog 55 = some (33, rc55, [.t 4]) := by kernel_rfl
theorem res29 : resF Try.prog 29 = some (27, cEqC 55 9 true, [.t 4]) := by kernel_rfl

def rc9 : RC := (.seq (.reg false [⟨none, .box 2 3 (.t 0)⟩, ⟨none, .box 3 3 (.t 1)⟩, ⟨none, .mv 4 (.c (.sc (.bool false)))⟩]) ((.seq ((.seq (.reg false [⟨none, .fa 5 0 (.t 2)⟩, ⟨none, .ld 6 true 2 (.t 5)⟩, ⟨none, .fa 7 0 (.t 3)⟩, ⟨none, .ld 8 true 2 (.t 7)⟩, ⟨none, .call (some 9) 28 [(.t 6), (.t 8)]⟩, ⟨none, .un 10 .not (.t 9)⟩]) (.cond (.t 10) ((.seq (.reg false [⟨none, .mv 4 (.c (.sc (.bool false)))⟩]) (.ret))) (.skip)))) ((.seq ((.seq (.reg false [⟨none, .fa 11 2 (.t 2)⟩, ⟨none, .ld 12 false 1 (.t 11)⟩, ⟨none, .fa 13 2 (.t 3)⟩, ⟨none, .ld 14 false 1 (.t 13)⟩, ⟨none, .call (some 15) 29 [(.t 12), (.t 14)]⟩, ⟨none, .un 16 .not (.t 15)⟩]) (.cond (.t 16) ((.seq (.reg false [⟨none, .mv 4 (.c (.sc (.bool false)))⟩]) (.ret))) (.skip)))) ((.seq (.reg false [⟨none, .mv 4 (.c (.sc (.bool true)))⟩]) (.ret))))))))
theorem res9 : resF Try.prog 9 = some (17, rc9, [.t 4]) := by kernel_rfl

def rc3 : RC := (.seq (.reg false [⟨none, .box 1 3 (.t 0)⟩, ⟨none, .mv 2 (.c (.sc (.bool false)))⟩]) ((.seq (.reg false [⟨none, .mv 3 (.c (.sc (.int .i64 1048576)))⟩]) ((.seq (.reg false [⟨none, .ld 7 true 3 (.t 1)⟩, ⟨none, .mv 8 (.t 3)⟩, ⟨none, .call (some 9) 5 [(.t 7), (.t 8)]⟩, ⟨none, .mv 3 (.t 9)⟩]) ((.seq ((.seq (.reg false [⟨none, .mv 10 (.t 3)⟩, ⟨none, .bin 11 .lss (.t 10) (.c (.sc (.int .i64 0)))⟩]) (.cond (.t 11) ((.seq (.reg false [⟨none, .mv 2 (.c (.sc (.bool true)))⟩]) (.ret))) (.skip)))) ((.seq (.reg false [⟨none, .ld 12 true 3 (.t 1)⟩, ⟨none, .call (some 13) 7 [(.t 12)]⟩, ⟨none, .call (some 14) 6 [(.t 13)]⟩, ⟨none, .mv 4 (.t 14)⟩]) ((.seq (.reg false [⟨none, .ld 15 true 3 (.t 1)⟩, ⟨none, .call (some 16) 7 [(.t 15)]⟩, ⟨none, .zer 5 3 (.ag [(.sc (.int .i64 0)), (.sc (.int .i64 0)), (.ls (some true) 9 [])])⟩, ⟨none, .st 3 (.t 5) (.t 16)⟩]) ((.seq (.reg false [⟨none, .ld 17 true 3 (.t 5)⟩, ⟨none, .call (some 18) 8 [(.t 17)]⟩, ⟨none, .mv 6 (.t 18)⟩]) ((.seq ((.seq (.reg false [⟨none, .mv 19 (.t 6)⟩, ⟨none, .mv 20 (.t 4)⟩, ⟨none, .beq 21 true (.t 19) (.t 20)⟩]) (.cond (.t 21) ((.seq (.reg false [⟨none, .mv 2 (.c (.sc (.bool false)))⟩]) (.ret))) (.skip)))) ((.seq ((.seq (.reg true [⟨none, .ld 22 true 3 (.t 5)⟩, ⟨none, .ld 23 true 3 (.t 1)⟩, ⟨none, .call (some 24) 7 [(.t 23)]⟩, ⟨none, .call (some 25) 9 [(.t 22), (.t 24)]⟩, ⟨none, .un 26 .not (.t 25)⟩]) (.cond (.t 26) ((.seq (.reg false [⟨none, .mv 2 (.c (.sc (.bool false)))⟩]) (.ret))) (.skip)))) ((.seq (.reg false [⟨none, .mv 2 (.c (.sc (.bool true)))⟩]) (.ret))))))))))))))))))))
theorem res3 : resF Try.prog 3 = some (27, rc3, [.t 2]) := by kernel_rfl
noncomputable def famExpr : Fam Try.prog eE 68 73 77 := famE mixed res68 res91 res73 res99 res77 res102
theorem famExpr_t (x) : famExpr.t x = tE x := rfl
noncomputable def famInt64S : Fam Try.prog (eS 1 eI) 110 13 16 := famP mixed encI noI ⟨rfl, rfl, rfl⟩ (by omega) res110 res13 (eqL fun x y => x == y) (fun _ => eqL_refl fun _ _ => by simp) fun a b => af_eqS mixed res16 a b
theorem famInt64S_t (x) : famInt64S.t x = (some false, x.2) := rfl
noncomputable def famExprS : Fam Try.prog (eS 3 eE) 91 99 102 := famC mixed famExpr encE ⟨rfl, rfl, rfl⟩ (by omega) res91 res99 res102
theorem famExprS_t (x) : famExprS.t x = (some false, x.2.map famExpr.t) := rfl
noncomputable def szProofStep (m : Stp) : Int → Int := fun l => nx (famInt64S.s m.2.2.1 l) (fun l => nx (famExprS.s m.2.2.2.1 l) (fun l => nx (famExprS.s m.2.2.2.2 l) (fun l => l)))
def fitProofStep (m : Stp) : Prop := famInt64S.fit m.2.2.1 ∧ famExprS.fit m.2.2.2.1 ∧ famExprS.fit m.2.2.2.2
noncomputable def tProofStep (m : Stp) : Stp := (m.1, m.2.1, famInt64S.t m.2.2.1, famExprS.t m.2.2.2.1, famExprS.t m.2.2.2.2)
noncomputable def qProofStep (a b : Stp) : Bool := ((a.1 == b.1) && ((a.2.1 == b.2.1) && (famInt64S.q a.2.2.1 b.2.2.1 && (famExprS.q a.2.2.2.1 b.2.2.2.1 && famExprS.q a.2.2.2.2 b.2.2.2.2))))
theorem szProofStep_in (m : Stp) (l : Int) (h1 : 0 ≤ l) (h2 : l ≤ 1048576) : -1 ≤ szProofStep m l ∧ szProofStep m l ≤ l := by
  refine in_tr (Int.le_refl l) (nx_in (famInt64S.s_in m.2.2.1 l h1 (by omega)) h1 (by omega) fun y0 a0 b0 => ?_)
  refine in_tr b0 (nx_in (famExprS.s_in m.2.2.2.1 y0 a0 (by omega)) a0 (by omega) fun y1 a1 b1 => ?_)
  refine in_tr b1 (nx_in (famExprS.s_in m.2.2.2.2 y1 a1 (by omega)) a1 (by omega) fun y2 a2 b2 => ?_)
  exact ⟨by omega, b2⟩
theorem szProofStep_fit (m : Stp) (l : Int) (h2 : l ≤ 1048576) (h1 : 0 ≤ l) (h : 0 ≤ szProofStep m l) : fitProofStep m := by
  obtain ⟨p0, h⟩ := nx_fit h
  have e0 := famInt64S.s_fit m.2.2.1 l (by omega) h1 p0
  have b0 := famInt64S.s_in m.2.2.1 l h1 (by omega)
  obtain ⟨p1, h⟩ := nx_fit h
  have e1 := famExprS.s_fit m.2.2.2.1 _ (by omega) p0 p1
  have b1 := famExprS.s_in m.2.2.2.1 (famInt64S.s m.2.2.1 l) p0 (by omega)
  obtain ⟨p2, h⟩ := nx_fit h
  have e2 := famExprS.s_fit m.2.2.2.2 _ (by omega) p1 p2
  have b2 := famExprS.s_in m.2.2.2.2 (famExprS.s m.2.2.2.1 (famInt64S.s m.2.2.1 l)) p1 (by omega)
  exact ⟨e0, e1, e2⟩
theorem af92 (m : Stp) (l : Int) (h1 : 0 ≤ l) (h2 : l ≤ 1048576) : AF Try.prog 92 [eSt m, eI l] (.own (eI (szProofStep m l))) := by
  refine af_of_res res92 mixed rfl fun _ => ?_
  simp +contextual -implicitDefEqProofs only [rc92, eSt, eS, go_sem, eI, eB, ↓reduceIte, Nat.reduceEqDiff, Nat.reduceAdd, Nat.reduceLeDiff, Nat.reduceMul, Nat.reduceBEq, Nat.reduceBneDiff, Nat.reduceLT, Nat.reduceSub, Bool.false_eq_true, List.cons_append, List.nil_append]
  refine callQ_self ?_ (famInt64S.afS m.2.2.1 l (by omega) (by omega)) ?_
  · first | exact rfl | (simp only [eE_eta]; exact rfl)
  simp +contextual -implicitDefEqProofs only [eSt, eS, go_sem, eI, eB, ↓reduceIte, Nat.reduceEqDiff, Nat.reduceAdd, Nat.reduceLeDiff, Nat.reduceMul, Nat.reduceBEq, Nat.reduceBneDiff, Nat.reduceLT, Nat.reduceSub, Bool.false_eq_true, List.cons_append, List.nil_append]
  have b0 := famInt64S.s_in m.2.2.1 l (by omega) (by omega)
  refine ⟨fun h => D.Le.sc_eq (by simp only [szProofStep]; rw [nx_neg h]), fun g0 => ?_⟩
  refine callQ_self ?_ (famExprS.afS m.2.2.2.1 (famInt64S.s m.2.2.1 l) (by omega) (by omega)) ?_
  · first | exact rfl | (simp only [eE_eta]; exact rfl)
  simp +contextual -implicitDefEqProofs only [eSt, eS, go_sem, eI, eB, ↓reduceIte, Nat.reduceEqDiff, Nat.reduceAdd, Nat.reduceLeDiff, Nat.reduceMul, Nat.reduceBEq, Nat.reduceBneDiff, Nat.reduceLT, Nat.reduceSub, Bool.false_eq_true, List.cons_append, List.nil_append]
  have b1 := famExprS.s_in m.2.2.2.1 (famInt64S.s m.2.2.1 l) (by omega) (by omega)
  refine ⟨fun h => D.Le.sc_eq (by simp only [szProofStep]; rw [nx_pos g0, nx_neg h]), fun g1 => ?_⟩
  refine callQ_self ?_ (famExprS.afS m.2.2.2.2 (famExprS.s m.2.2.2.1 (famInt64S.s m.2.2.1 l)) (by omega) (by omega)) ?_
  · first | exact rfl | (simp only [eE_eta]; exact rfl)
  simp +contextual -implicitDefEqProofs only [eSt, eS, go_sem, eI, eB, ↓reduceIte, Nat.reduceEqDiff, Nat.reduceAdd, Nat.reduceLeDiff, Nat.reduceMul, Nat.reduceBEq, Nat.reduceBneDiff, Nat.reduceLT, Nat.reduceSub, Bool.false_eq_true, List.cons_append, List.nil_append]
  have b2 := famExprS.s_in m.2.2.2.2 (famExprS.s m.2.2.2.1 (famInt64S.s m.2.2.1 l)) (by omega) (by omega)
  refine ⟨fun h => D.Le.sc_eq (by simp only [szProofStep]; rw [nx_pos g0, nx_pos g1, nx_neg h]), fun g2 => ?_⟩
  exact D.Le.sc_eq (by simp only [szProofStep]; rw [nx_pos g0, nx_pos g1, nx_pos g2])
theorem af100 (m : Stp) (h : fitProofStep m) : AF Try.prog 100 [eSt m] (.own (eSt (tProofStep m))) := by
  refine af_of_res res100 mixed rfl fun _ => ?_
  simp +contextual -implicitDefEqProofs only [rc100, eSt, eS, tProofStep, famInt64S_t, famExprS_t, go_sem, eI, eB, ↓reduceIte, Nat.reduceEqDiff, Nat.reduceAdd, Nat.reduceLeDiff, Nat.reduceMul, Nat.reduceBEq, Nat.reduceBneDiff, Nat.reduceLT, Nat.reduceSub, Bool.false_eq_true, List.cons_append, List.nil_append]
  refine callQ_self ?_ (famInt64S.afT m.2.2.1 h.1) ?_
  · first | exact rfl | (simp only [eE_eta]; exact rfl)
  simp +contextual -implicitDefEqProofs only [eSt, eS, tProofStep, famInt64S_t, famExprS_t, go_sem, eI, eB, ↓reduceIte, Nat.reduceEqDiff, Nat.reduceAdd, Nat.reduceLeDiff, Nat.reduceMul, Nat.reduceBEq, Nat.reduceBneDiff, Nat.reduceLT, Nat.reduceSub, Bool.false_eq_true, List.cons_append, List.nil_append]
  refine callQ_self ?_ (famExprS.afT m.2.2.2.1 h.2.1) ?_
  · first | exact rfl | (simp only [eE_eta]; exact rfl)
  simp +contextual -implicitDefEqProofs only [eSt, eS, tProofStep, famInt64S_t, famExprS_t, go_sem, eI, eB, ↓reduceIte, Nat.reduceEqDiff, Nat.reduceAdd, Nat.reduceLeDiff, Nat.reduceMul, Nat.reduceBEq, Nat.reduceBneDiff, Nat.reduceLT, Nat.reduceSub, Bool.false_eq_true, List.cons_append, List.nil_append]
  refine callQ_self ?_ (famExprS.afT m.2.2.2.2 h.2.2) ?_
  · first | exact rfl | (simp only [eE_eta]; exact rfl)
  simp +contextual -implicitDefEqProofs only [eSt, eS, tProofStep, famInt64S_t, famExprS_t, go_sem, eI, eB, ↓reduceIte, Nat.reduceEqDiff, Nat.reduceAdd, Nat.reduceLeDiff, Nat.reduceMul, Nat.reduceBEq, Nat.reduceBneDiff, Nat.reduceLT, Nat.reduceSub, Bool.false_eq_true, List.cons_append, List.nil_append]
theorem af103 (a b : Stp) : AF Try.prog 103 [eSt a, eSt b] (.own (eB (qProofStep a b))) := by
  refine af_of_res res103 mixed rfl fun _ => ?_
  cases e0 : (a.1 == b.1)
  · simp +contextual -implicitDefEqProofs only [rc103, qProofStep, bne, Bool.not_true, Bool.not_false, Bool.true_and, Bool.false_and, Bool.and_true, Bool.and_false, eSt, eS, e0, go_sem, eI, eB, ↓reduceIte, Nat.reduceEqDiff, Nat.reduceAdd, Nat.reduceLeDiff, Nat.reduceMul, Nat.reduceBEq, Nat.reduceBneDiff, Nat.reduceLT, Nat.reduceSub, Bool.false_eq_true, List.cons_append, List.nil_append]
  cases e1 : (a.2.1 == b.2.1)
  · simp +contextual -implicitDefEqProofs only [rc103, qProofStep, bne, Bool.not_true, Bool.not_false, Bool.true_and, Bool.false_and, Bool.and_true, Bool.and_false, eSt, eS, e0, e1, go_sem, eI, eB, ↓reduceIte, Nat.reduceEqDiff, Nat.reduceAdd, Nat.reduceLeDiff, Nat.reduceMul, Nat.reduceBEq, Nat.reduceBneDiff, Nat.reduceLT, Nat.reduceSub, Bool.false_eq_true, List.cons_append, List.nil_append]
  simp +contextual -implicitDefEqProofs only [rc103, qProofStep, bne, Bool.not_true, Bool.not_false, Bool.true_and, Bool.false_and, Bool.and_true, Bool.and_false, eSt, eS, e0, e1, go_sem, eI, eB, ↓reduceIte, Nat.reduceEqDiff, Nat.reduceAdd, Nat.reduceLeDiff, Nat.reduceMul, Nat.reduceBEq, Nat.reduceBneDiff, Nat.reduceLT, Nat.reduceSub, Bool.false_eq_true, List.cons_append, List.nil_append]
  refine callQ_self ?_ (famInt64S.afQ a.2.2.1 b.2.2.1) ?_
  · first | exact rfl | (simp only [eE_eta]; exact rfl)
  cases e2 : famInt64S.q a.2.2.1 b.2.2.1
  · simp +contextual -implicitDefEqProofs only [qProofStep, bne, Bool.not_true, Bool.not_false, Bool.true_and, Bool.false_and, Bool.and_true, Bool.and_false, eSt, eS, e0, e1, e2, go_sem, eI, eB, ↓reduceIte, Nat.reduceEqDiff, Nat.reduceAdd, Nat.reduceLeDiff, Nat.reduceMul, Nat.reduceBEq, Nat.reduceBneDiff, Nat.reduceLT, Nat.reduceSub, Bool.false_eq_true, List.cons_append, List.nil_append]
  simp +contextual -implicitDefEqProofs only [qProofStep, bne, Bool.not_true, Bool.not_false, Bool.true_and, Bool.false_and, Bool.and_true, Bool.and_false, eSt, eS, e0, e1, e2, go_sem, eI, eB, ↓reduceIte, Nat.reduceEqDiff, Nat.reduceAdd, Nat.reduceLeDiff, Nat.reduceMul, Nat.reduceBEq, Nat.reduceBneDiff, Nat.reduceLT, Nat.reduceSub, Bool.false_eq_true, List.cons_append, List.nil_append]
  refine callQ_self ?_ (famExprS.afQ a.2.2.2.1 b.2.2.2.1) ?_
  · first | exact rfl | (simp only [eE_eta]; exact rfl)
  cases e3 : famExprS.q a.2.2.2.1 b.2.2.2.1
  · simp +contextual -implicitDefEqProofs only [qProofStep, bne, Bool.not_true, Bool.not_false, Bool.true_and, Bool.false_and, Bool.and_true, Bool.and_false, eSt, eS, e0, e1, e2, e3, go_sem, eI, eB, ↓reduceIte, Nat.reduceEqDiff, Nat.reduceAdd, Nat.reduceLeDiff, Nat.reduceMul, Nat.reduceBEq, Nat.reduceBneDiff, Nat.reduceLT, Nat.reduceSub, Bool.false_eq_true, List.cons_append, List.nil_append]
  simp +contextual -implicitDefEqProofs only [qProofStep, bne, Bool.not_true, Bool.not_false, Bool.true_and, Bool.false_and, Bool.and_true, Bool.and_false, eSt, eS, e0, e1, e2, e3, go_sem, eI, eB, ↓reduceIte, Nat.reduceEqDiff, Nat.reduceAdd, Nat.reduceLeDiff, Nat.reduceMul, Nat.reduceBEq, Nat.reduceBneDiff, Nat.reduceLT, Nat.reduceSub, Bool.false_eq_true, List.cons_append, List.nil_append]
  refine callQ_self ?_ (famExprS.afQ a.2.2.2.2 b.2.2.2.2) ?_
  · first | exact rfl | (simp only [eE_eta]; exact rfl)
  cases e4 : famExprS.q a.2.2.2.2 b.2.2.2.2
  · simp +contextual -implicitDefEqProofs only [qProofStep, bne, Bool.not_true, Bool.not_false, Bool.true_and, Bool.false_and, Bool.and_true, Bool.and_false, eSt, eS, e0, e1, e2, e3, e4, go_sem, eI, eB, ↓reduceIte, Nat.reduceEqDiff, Nat.reduceAdd, Nat.reduceLeDiff, Nat.reduceMul, Nat.reduceBEq, Nat.reduceBneDiff, Nat.reduceLT, Nat.reduceSub, Bool.false_eq_true, List.cons_append, List.nil_append]
  · simp +contextual -implicitDefEqProofs only [qProofStep, bne, Bool.not_true, Bool.not_false, Bool.true_and, Bool.false_and, Bool.and_true, Bool.and_false, eSt, eS, e0, e1, e2, e3, e4, go_sem, eI, eB, ↓reduceIte, Nat.reduceEqDiff, Nat.reduceAdd, Nat.reduceLeDiff, Nat.reduceMul, Nat.reduceBEq, Nat.reduceBneDiff, Nat.reduceLT, Nat.reduceSub, Bool.false_eq_true, List.cons_append, List.nil_append]
theorem qProofStep_refl (m : Stp) : qProofStep m m = true := by simp [qProofStep, famInt64S.q_refl, famExprS.q_refl, famExprS.q_refl]
noncomputable def famProofStep : Fam Try.prog eSt 92 100 103 := ⟨szProofStep, tProofStep, qProofStep, fitProofStep, szProofStep_in, szProofStep_fit, qProofStep_refl, af92, af100, af103⟩
theorem famProofStep_t (x) : famProofStep.t x = tProofStep x := rfl
noncomputable def famProofStepS : Fam Try.prog (eS 5 eSt) 69 74 78 := famC mixed famProofStep encSt ⟨rfl, rfl, rfl⟩ (by omega) res69 res74 res78
theorem famProofStepS_t (x) : famProofStepS.t x = (some false, x.2.map famProofStep.t) := rfl
noncomputable def szClaim (m : Cl) : Int → Int := fun l => nx (famExpr.s m.1 l) (fun l => nx (famExpr.s m.2.1 l) (fun l => nx (famProofStepS.s m.2.2.2.2 l) (fun l => l)))
def fitClaim (m : Cl) : Prop := famExpr.fit m.1 ∧ famExpr.fit m.2.1 ∧ famProofStepS.fit m.2.2.2.2
noncomputable def tClaim (m : Cl) : Cl := (famExpr.t m.1, famExpr.t m.2.1, m.2.2.1, m.2.2.2.1, famProofStepS.t m.2.2.2.2)
noncomputable def qClaim (a b : Cl) : Bool := (famExpr.q a.1 b.1 && (famExpr.q a.2.1 b.2.1 && ((a.2.2.1 == b.2.2.1) && ((a.2.2.2.1 == b.2.2.2.1) && famProofStepS.q a.2.2.2.2 b.2.2.2.2))))
theorem szClaim_in (m : Cl) (l : Int) (h1 : 0 ≤ l) (h2 : l ≤ 1048576) : -1 ≤ szClaim m l ∧ szClaim m l ≤ l := by
  refine in_tr (Int.le_refl l) (nx_in (famExpr.s_in m.1 l h1 (by omega)) h1 (by omega) fun y0 a0 b0 => ?_)
  refine in_tr b0 (nx_in (famExpr.s_in m.2.1 y0 a0 (by omega)) a0 (by omega) fun y1 a1 b1 => ?_)
  refine in_tr b1 (nx_in (famProofStepS.s_in m.2.2.2.2 y1 a1 (by omega)) a1 (by omega) fun y2 a2 b2 => ?_)
  exact ⟨by omega, b2⟩
theorem szClaim_fit (m : Cl) (l : Int) (h2 : l ≤ 1048576) (h1 : 0 ≤ l) (h : 0 ≤ szClaim m l) : fitClaim m := by
  obtain ⟨p0, h⟩ := nx_fit h
  have e0 := famExpr.s_fit m.1 l (by omega) h1 p0
  have b0 := famExpr.s_in m.1 l h1 (by omega)
  obtain ⟨p1, h⟩ := nx_fit h
  have e1 := famExpr.s_fit m.2.1 _ (by omega) p0 p1
  have b1 := famExpr.s_in m.2.1 (famExpr.s m.1 l) p0 (by omega)
  obtain ⟨p2, h⟩ := nx_fit h
  have e2 := famProofStepS.s_fit m.2.2.2.2 _ (by omega) p1 p2
  have b2 := famProofStepS.s_in m.2.2.2.2 (famExpr.s m.2.1 (famExpr.s m.1 l)) p1 (by omega)
  exact ⟨e0, e1, e2⟩
theorem af48 (m : Cl) (l : Int) (h1 : 0 ≤ l) (h2 : l ≤ 1048576) : AF Try.prog 48 [eCl m, eI l] (.own (eI (szClaim m l))) := by
  refine af_of_res res48 mixed rfl fun _ => ?_
  simp +contextual -implicitDefEqProofs only [rc48, eCl, eS, go_sem, eI, eB, ↓reduceIte, Nat.reduceEqDiff, Nat.reduceAdd, Nat.reduceLeDiff, Nat.reduceMul, Nat.reduceBEq, Nat.reduceBneDiff, Nat.reduceLT, Nat.reduceSub, Bool.false_eq_true, List.cons_append, List.nil_append]
  refine callQ_self ?_ (famExpr.afS m.1 l (by omega) (by omega)) ?_
  · first | exact rfl | (simp only [eE_eta]; exact rfl)
  simp +contextual -implicitDefEqProofs only [eCl, eS, go_sem, eI, eB, ↓reduceIte, Nat.reduceEqDiff, Nat.reduceAdd, Nat.reduceLeDiff, Nat.reduceMul, Nat.reduceBEq, Nat.reduceBneDiff, Nat.reduceLT, Nat.reduceSub, Bool.false_eq_true, List.cons_append, List.nil_append]
  have b0 := famExpr.s_in m.1 l (by omega) (by omega)
  refine ⟨fun h => D.Le.sc_eq (by simp only [szClaim]; rw [nx_neg h]), fun g0 => ?_⟩
  refine callQ_self ?_ (famExpr.afS m.2.1 (famExpr.s m.1 l) (by omega) (by omega)) ?_
  · first | exact rfl | (simp only [eE_eta]; exact rfl)
  simp +contextual -implicitDefEqProofs only [eCl, eS, go_sem, eI, eB, ↓reduceIte, Nat.reduceEqDiff, Nat.reduceAdd, Nat.reduceLeDiff, Nat.reduceMul, Nat.reduceBEq, Nat.reduceBneDiff, Nat.reduceLT, Nat.reduceSub, Bool.false_eq_true, List.cons_append, List.nil_append]
  have b1 := famExpr.s_in m.2.1 (famExpr.s m.1 l) (by omega) (by omega)
  refine ⟨fun h => D.Le.sc_eq (by simp only [szClaim]; rw [nx_pos g0, nx_neg h]), fun g1 => ?_⟩
  refine callQ_self ?_ (famProofStepS.afS m.2.2.2.2 (famExpr.s m.2.1 (famExpr.s m.1 l)) (by omega) (by omega)) ?_
  · first | exact rfl | (simp only [eE_eta]; exact rfl)
  simp +contextual -implicitDefEqProofs only [eCl, eS, go_sem, eI, eB, ↓reduceIte, Nat.reduceEqDiff, Nat.reduceAdd, Nat.reduceLeDiff, Nat.reduceMul, Nat.reduceBEq, Nat.reduceBneDiff, Nat.reduceLT, Nat.reduceSub, Bool.false_eq_true, List.cons_append, List.nil_append]
  have b2 := famProofStepS.s_in m.2.2.2.2 (famExpr.s m.2.1 (famExpr.s m.1 l)) (by omega) (by omega)
  refine ⟨fun h => D.Le.sc_eq (by simp only [szClaim]; rw [nx_pos g0, nx_pos g1, nx_neg h]), fun g2 => ?_⟩
  exact D.Le.sc_eq (by simp only [szClaim]; rw [nx_pos g0, nx_pos g1, nx_pos g2])
theorem af51 (m : Cl) (h : fitClaim m) : AF Try.prog 51 [eCl m] (.own (eCl (tClaim m))) := by
  refine af_of_res res51 mixed rfl fun _ => ?_
  simp +contextual -implicitDefEqProofs only [rc51, eCl, eS, tClaim, famExpr_t, famProofStepS_t, eE_te, tE_k, tE_n, tE_nn, tE_ks, go_sem, eI, eB, ↓reduceIte, Nat.reduceEqDiff, Nat.reduceAdd, Nat.reduceLeDiff, Nat.reduceMul, Nat.reduceBEq, Nat.reduceBneDiff, Nat.reduceLT, Nat.reduceSub, Bool.false_eq_true, List.cons_append, List.nil_append]
  refine callQ_self ?_ (famExpr.afT m.1 h.1) ?_
  · first | exact rfl | (simp only [eE_eta]; exact rfl)
  simp +contextual -implicitDefEqProofs only [eCl, eS, tClaim, famExpr_t, famProofStepS_t, eE_te, tE_k, tE_n, tE_nn, tE_ks, go_sem, eI, eB, ↓reduceIte, Nat.reduceEqDiff, Nat.reduceAdd, Nat.reduceLeDiff, Nat.reduceMul, Nat.reduceBEq, Nat.reduceBneDiff, Nat.reduceLT, Nat.reduceSub, Bool.false_eq_true, List.cons_append, List.nil_append]
  refine callQ_self ?_ (famExpr.afT m.2.1 h.2.1) ?_
  · first | exact rfl | (simp only [eE_eta]; exact rfl)
  simp +contextual -implicitDefEqProofs only [eCl, eS, tClaim, famExpr_t, famProofStepS_t, eE_te, tE_k, tE_n, tE_nn, tE_ks, go_sem, eI, eB, ↓reduceIte, Nat.reduceEqDiff, Nat.reduceAdd, Nat.reduceLeDiff, Nat.reduceMul, Nat.reduceBEq, Nat.reduceBneDiff, Nat.reduceLT, Nat.reduceSub, Bool.false_eq_true, List.cons_append, List.nil_append]
  refine callQ_self ?_ (famProofStepS.afT m.2.2.2.2 h.2.2) ?_
  · first | exact rfl | (simp only [eE_eta]; exact rfl)
  simp +contextual -implicitDefEqProofs only [eCl, eS, tClaim, famExpr_t, famProofStepS_t, eE_te, tE_k, tE_n, tE_nn, tE_ks, go_sem, eI, eB, ↓reduceIte, Nat.reduceEqDiff, Nat.reduceAdd, Nat.reduceLeDiff, Nat.reduceMul, Nat.reduceBEq, Nat.reduceBneDiff, Nat.reduceLT, Nat.reduceSub, Bool.false_eq_true, List.cons_append, List.nil_append]
theorem af55 (a b : Cl) : AF Try.prog 55 [eCl a, eCl b] (.own (eB (qClaim a b))) := by
  refine af_of_res res55 mixed rfl fun _ => ?_
  simp +contextual -implicitDefEqProofs only [rc55, qClaim, bne, Bool.not_true, Bool.not_false, Bool.true_and, Bool.false_and, Bool.and_true, Bool.and_false, eCl, eS, go_sem, eI, eB, ↓reduceIte, Nat.reduceEqDiff, Nat.reduceAdd, Nat.reduceLeDiff, Nat.reduceMul, Nat.reduceBEq, Nat.reduceBneDiff, Nat.reduceLT, Nat.reduceSub, Bool.false_eq_true, List.cons_append, List.nil_append]
  refine callQ_self ?_ (famExpr.afQ a.1 b.1) ?_
  · first | exact rfl | (simp only [eE_eta]; exact rfl)
  cases e0 : famExpr.q a.1 b.1
  · simp +contextual -implicitDefEqProofs only [qClaim, bne, Bool.not_true, Bool.not_false, Bool.true_and, Bool.false_and, Bool.and_true, Bool.and_false, eCl, eS, e0, go_sem, eI, eB, ↓reduceIte, Nat.reduceEqDiff, Nat.reduceAdd, Nat.reduceLeDiff, Nat.reduceMul, Nat.reduceBEq, Nat.reduceBneDiff, Nat.reduceLT, Nat.reduceSub, Bool.false_eq_true, List.cons_append, List.nil_append]
  simp +contextual -implicitDefEqProofs only [qClaim, bne, Bool.not_true, Bool.not_false, Bool.true_and, Bool.false_and, Bool.and_true, Bool.and_false, eCl, eS, e0, go_sem, eI, eB, ↓reduceIte, Nat.reduceEqDiff, Nat.reduceAdd, Nat.reduceLeDiff, Nat.reduceMul, Nat.reduceBEq, Nat.reduceBneDiff, Nat.reduceLT, Nat.reduceSub, Bool.false_eq_true, List.cons_append, List.nil_append]
  refine callQ_self ?_ (famExpr.afQ a.2.1 b.2.1) ?_
  · first | exact rfl | (simp only [eE_eta]; exact rfl)
  cases e1 : famExpr.q a.2.1 b.2.1
  · simp +contextual -implicitDefEqProofs only [qClaim, bne, Bool.not_true, Bool.not_false, Bool.true_and, Bool.false_and, Bool.and_true, Bool.and_false, eCl, eS, e0, e1, go_sem, eI, eB, ↓reduceIte, Nat.reduceEqDiff, Nat.reduceAdd, Nat.reduceLeDiff, Nat.reduceMul, Nat.reduceBEq, Nat.reduceBneDiff, Nat.reduceLT, Nat.reduceSub, Bool.false_eq_true, List.cons_append, List.nil_append]
  cases e2 : (a.2.2.1 == b.2.2.1)
  · simp +contextual -implicitDefEqProofs only [qClaim, bne, Bool.not_true, Bool.not_false, Bool.true_and, Bool.false_and, Bool.and_true, Bool.and_false, eCl, eS, e0, e1, e2, go_sem, eI, eB, ↓reduceIte, Nat.reduceEqDiff, Nat.reduceAdd, Nat.reduceLeDiff, Nat.reduceMul, Nat.reduceBEq, Nat.reduceBneDiff, Nat.reduceLT, Nat.reduceSub, Bool.false_eq_true, List.cons_append, List.nil_append]
  cases e3 : (a.2.2.2.1 == b.2.2.2.1)
  · simp +contextual -implicitDefEqProofs only [qClaim, bne, Bool.not_true, Bool.not_false, Bool.true_and, Bool.false_and, Bool.and_true, Bool.and_false, eCl, eS, e0, e1, e2, e3, go_sem, eI, eB, ↓reduceIte, Nat.reduceEqDiff, Nat.reduceAdd, Nat.reduceLeDiff, Nat.reduceMul, Nat.reduceBEq, Nat.reduceBneDiff, Nat.reduceLT, Nat.reduceSub, Bool.false_eq_true, List.cons_append, List.nil_append]
  simp +contextual -implicitDefEqProofs only [qClaim, bne, Bool.not_true, Bool.not_false, Bool.true_and, Bool.false_and, Bool.and_true, Bool.and_false, eCl, eS, e0, e1, e2, e3, go_sem, eI, eB, ↓reduceIte, Nat.reduceEqDiff, Nat.reduceAdd, Nat.reduceLeDiff, Nat.reduceMul, Nat.reduceBEq, Nat.reduceBneDiff, Nat.reduceLT, Nat.reduceSub, Bool.false_eq_true, List.cons_append, List.nil_append]
  refine callQ_self ?_ (famProofStepS.afQ a.2.2.2.2 b.2.2.2.2) ?_
  · first | exact rfl | (simp only [eE_eta]; exact rfl)
  cases e4 : famProofStepS.q a.2.2.2.2 b.2.2.2.2
  · simp +contextual -implicitDefEqProofs only [qClaim, bne, Bool.not_true, Bool.not_false, Bool.true_and, Bool.false_and, Bool.and_true, Bool.and_false, eCl, eS, e0, e1, e2, e3, e4, go_sem, eI, eB, ↓reduceIte, Nat.reduceEqDiff, Nat.reduceAdd, Nat.reduceLeDiff, Nat.reduceMul, Nat.reduceBEq, Nat.reduceBneDiff, Nat.reduceLT, Nat.reduceSub, Bool.false_eq_true, List.cons_append, List.nil_append]
  · simp +contextual -implicitDefEqProofs only [qClaim, bne, Bool.not_true, Bool.not_false, Bool.true_and, Bool.false_and, Bool.and_true, Bool.and_false, eCl, eS, e0, e1, e2, e3, e4, go_sem, eI, eB, ↓reduceIte, Nat.reduceEqDiff, Nat.reduceAdd, Nat.reduceLeDiff, Nat.reduceMul, Nat.reduceBEq, Nat.reduceBneDiff, Nat.reduceLT, Nat.reduceSub, Bool.false_eq_true, List.cons_append, List.nil_append]
theorem qClaim_refl (m : Cl) : qClaim m m = true := by simp [qClaim, famExpr.q_refl, famExpr.q_refl, famProofStepS.q_refl]
noncomputable def famClaim : Fam Try.prog eCl 48 51 55 := ⟨szClaim, tClaim, qClaim, fitClaim, szClaim_in, szClaim_fit, qClaim_refl, af48, af51, af55⟩
theorem famClaim_t (x) : famClaim.t x = tClaim x := rfl
noncomputable def famClaimS : Fam Try.prog (eS 9 eCl) 20 23 29 := famC mixed famClaim encCl ⟨rfl, rfl, rfl⟩ (by omega) res20 res23 res29
theorem famClaimS_t (x) : famClaimS.t x = (some false, x.2.map famClaim.t) := rfl
noncomputable def szProof (m : Pf) : Int → Int := fun l => nx (famClaimS.s m.2 l) (fun l => l)
def fitProof (m : Pf) : Prop := famClaimS.fit m.2
noncomputable def tProof (m : Pf) : Pf := (m.1, famClaimS.t m.2)
noncomputable def qProof (a b : Pf) : Bool := (qG a.1 b.1 && famClaimS.q a.2 b.2)
theorem szProof_in (m : Pf) (l : Int) (h1 : 0 ≤ l) (h2 : l ≤ 1048576) : -1 ≤ szProof m l ∧ szProof m l ≤ l := by
  refine in_tr (Int.le_refl l) (nx_in (famClaimS.s_in m.2 l h1 (by omega)) h1 (by omega) fun y0 a0 b0 => ?_)
  exact ⟨by omega, b0⟩
theorem szProof_fit (m : Pf) (l : Int) (h2 : l ≤ 1048576) (h1 : 0 ≤ l) (h : 0 ≤ szProof m l) : fitProof m := by
  obtain ⟨p0, h⟩ := nx_fit h
  have e0 := famClaimS.s_fit m.2 l (by omega) h1 p0
  have b0 := famClaimS.s_in m.2 l h1 (by omega)
  exact e0
theorem af5 (m : Pf) (l : Int) (h1 : 0 ≤ l) (h2 : l ≤ 1048576) : AF Try.prog 5 [ePf m, eI l] (.own (eI (szProof m l))) := by
  refine af_of_res res5 mixed rfl fun _ => ?_
  simp +contextual -implicitDefEqProofs only [rc5, ePf, eG, eS, go_sem, eI, eB, ↓reduceIte, Nat.reduceEqDiff, Nat.reduceAdd, Nat.reduceLeDiff, Nat.reduceMul, Nat.reduceBEq, Nat.reduceBneDiff, Nat.reduceLT, Nat.reduceSub, Bool.false_eq_true, List.cons_append, List.nil_append]
  refine callQ_self ?_ (famClaimS.afS m.2 l (by omega) (by omega)) ?_
  · first | exact rfl | (simp only [eE_eta]; exact rfl)
  simp +contextual -implicitDefEqProofs only [ePf, eG, eS, go_sem, eI, eB, ↓reduceIte, Nat.reduceEqDiff, Nat.reduceAdd, Nat.reduceLeDiff, Nat.reduceMul, Nat.reduceBEq, Nat.reduceBneDiff, Nat.reduceLT, Nat.reduceSub, Bool.false_eq_true, List.cons_append, List.nil_append]
  have b0 := famClaimS.s_in m.2 l (by omega) (by omega)
  refine ⟨fun h => D.Le.sc_eq (by simp only [szProof]; rw [nx_neg h]), fun g0 => ?_⟩
  exact D.Le.sc_eq (by simp only [szProof]; rw [nx_pos g0])
theorem af7 (m : Pf) (h : fitProof m) : AF Try.prog 7 [ePf m] (.own (ePf (tProof m))) := by
  refine af_of_res res7 mixed rfl fun _ => ?_
  simp +contextual -implicitDefEqProofs only [rc7, ePf, eG, eS, tProof, famClaimS_t, go_sem, eI, eB, ↓reduceIte, Nat.reduceEqDiff, Nat.reduceAdd, Nat.reduceLeDiff, Nat.reduceMul, Nat.reduceBEq, Nat.reduceBneDiff, Nat.reduceLT, Nat.reduceSub, Bool.false_eq_true, List.cons_append, List.nil_append]
  refine callQ_self ?_ (af22 m.1) ?_
  · first | exact rfl | (simp only [eE_eta]; exact rfl)
  simp +contextual -implicitDefEqProofs only [ePf, eG, eS, tProof, famClaimS_t, go_sem, eI, eB, ↓reduceIte, Nat.reduceEqDiff, Nat.reduceAdd, Nat.reduceLeDiff, Nat.reduceMul, Nat.reduceBEq, Nat.reduceBneDiff, Nat.reduceLT, Nat.reduceSub, Bool.false_eq_true, List.cons_append, List.nil_append]
  refine callQ_self ?_ (famClaimS.afT m.2 h) ?_
  · first | exact rfl | (simp only [eE_eta]; exact rfl)
  simp +contextual -implicitDefEqProofs only [ePf, eG, eS, tProof, famClaimS_t, go_sem, eI, eB, ↓reduceIte, Nat.reduceEqDiff, Nat.reduceAdd, Nat.reduceLeDiff, Nat.reduceMul, Nat.reduceBEq, Nat.reduceBneDiff, Nat.reduceLT, Nat.reduceSub, Bool.false_eq_true, List.cons_append, List.nil_append]
theorem af9 (a b : Pf) : AF Try.prog 9 [ePf a, ePf b] (.own (eB (qProof a b))) := by
  refine af_of_res res9 mixed rfl fun _ => ?_
  simp +contextual -implicitDefEqProofs only [rc9, qProof, bne, Bool.not_true, Bool.not_false, Bool.true_and, Bool.false_and, Bool.and_true, Bool.and_false, ePf, eG, eS, go_sem, eI, eB, ↓reduceIte, Nat.reduceEqDiff, Nat.reduceAdd, Nat.reduceLeDiff, Nat.reduceMul, Nat.reduceBEq, Nat.reduceBneDiff, Nat.reduceLT, Nat.reduceSub, Bool.false_eq_true, List.cons_append, List.nil_append]
  refine callQ_self ?_ (af28 a.1 b.1) ?_
  · first | exact rfl | (simp only [eE_eta]; exact rfl)
  cases e0 : qG a.1 b.1
  · simp +contextual -implicitDefEqProofs only [qProof, bne, Bool.not_true, Bool.not_false, Bool.true_and, Bool.false_and, Bool.and_true, Bool.and_false, ePf, eG, eS, e0, go_sem, eI, eB, ↓reduceIte, Nat.reduceEqDiff, Nat.reduceAdd, Nat.reduceLeDiff, Nat.reduceMul, Nat.reduceBEq, Nat.reduceBneDiff, Nat.reduceLT, Nat.reduceSub, Bool.false_eq_true, List.cons_append, List.nil_append]
  simp +contextual -implicitDefEqProofs only [qProof, bne, Bool.not_true, Bool.not_false, Bool.true_and, Bool.false_and, Bool.and_true, Bool.and_false, ePf, eG, eS, e0, go_sem, eI, eB, ↓reduceIte, Nat.reduceEqDiff, Nat.reduceAdd, Nat.reduceLeDiff, Nat.reduceMul, Nat.reduceBEq, Nat.reduceBneDiff, Nat.reduceLT, Nat.reduceSub, Bool.false_eq_true, List.cons_append, List.nil_append]
  refine callQ_self ?_ (famClaimS.afQ a.2 b.2) ?_
  · first | exact rfl | (simp only [eE_eta]; exact rfl)
  cases e1 : famClaimS.q a.2 b.2
  · simp +contextual -implicitDefEqProofs only [qProof, bne, Bool.not_true, Bool.not_false, Bool.true_and, Bool.false_and, Bool.and_true, Bool.and_false, ePf, eG, eS, e0, e1, go_sem, eI, eB, ↓reduceIte, Nat.reduceEqDiff, Nat.reduceAdd, Nat.reduceLeDiff, Nat.reduceMul, Nat.reduceBEq, Nat.reduceBneDiff, Nat.reduceLT, Nat.reduceSub, Bool.false_eq_true, List.cons_append, List.nil_append]
  · simp +contextual -implicitDefEqProofs only [qProof, bne, Bool.not_true, Bool.not_false, Bool.true_and, Bool.false_and, Bool.and_true, Bool.and_false, ePf, eG, eS, e0, e1, go_sem, eI, eB, ↓reduceIte, Nat.reduceEqDiff, Nat.reduceAdd, Nat.reduceLeDiff, Nat.reduceMul, Nat.reduceBEq, Nat.reduceBneDiff, Nat.reduceLT, Nat.reduceSub, Bool.false_eq_true, List.cons_append, List.nil_append]
theorem qProof_refl (m : Pf) : qProof m m = true := by simp [qProof, qG, famClaimS.q_refl]
noncomputable def famProof : Fam Try.prog ePf 5 7 9 := ⟨szProof, tProof, qProof, fitProof, szProof_in, szProof_fit, qProof_refl, af5, af7, af9⟩
theorem famProof_t (x) : famProof.t x = tProof x := rfl
theorem law (a : Pf) : AF Try.prog 3 [ePf a] (.own (eB true)) := by
  refine af_of_res res3 mixed rfl fun hbd => ?_
  simp +contextual -implicitDefEqProofs only [rc3, eG, ePf, eS, famProof_t, tProof, famClaimS_t, bne_self_eq_false, go_sem, eI, eB, ↓reduceIte, Nat.reduceEqDiff, Nat.reduceAdd, Nat.reduceLeDiff, Nat.reduceMul, Nat.reduceBEq, Nat.reduceBneDiff, Nat.reduceLT, Nat.reduceSub, Bool.false_eq_true, List.cons_append, List.nil_append]
  refine callQ_self (ds := [ePf a, eI 1048576]) ?_ (famProof.afS a 1048576 (by omega) (by omega)) ?_
  · simp only [eG, ePf, eS, famProof_t, tProof, famClaimS_t, bne_self_eq_false]; exact rfl
  simp +contextual -implicitDefEqProofs only [eG, ePf, eS, famProof_t, tProof, famClaimS_t, bne_self_eq_false, go_sem, eI, eB, ↓reduceIte, Nat.reduceEqDiff, Nat.reduceAdd, Nat.reduceLeDiff, Nat.reduceMul, Nat.reduceBEq, Nat.reduceBneDiff, Nat.reduceLT, Nat.reduceSub, Bool.false_eq_true, List.cons_append, List.nil_append]
  have sb0 := famProof.s_in a 1048576 (by omega) (by omega)
  refine fun hs0 => ?_
  have hf0 := famProof.s_fit a 1048576 (by omega) (by omega) (by omega)
  refine callQ_self (ds := [ePf a]) ?_ (famProof.afT a hf0) ?_
  · simp only [eG, ePf, eS, famProof_t, tProof, famClaimS_t, bne_self_eq_false]; exact rfl
  simp +contextual -implicitDefEqProofs only [eG, ePf, eS, famProof_t, tProof, famClaimS_t, bne_self_eq_false, go_sem, eI, eB, ↓reduceIte, Nat.reduceEqDiff, Nat.reduceAdd, Nat.reduceLeDiff, Nat.reduceMul, Nat.reduceBEq, Nat.reduceBneDiff, Nat.reduceLT, Nat.reduceSub, Bool.false_eq_true, List.cons_append, List.nil_append]
  refine callQ_self (ds := [ePf (famProof.t a)]) ?_ (af6 (famProof.t a)) ?_
  · simp only [eG, ePf, eS, famProof_t, tProof, famClaimS_t, bne_self_eq_false]; exact rfl
  simp +contextual -implicitDefEqProofs only [eG, ePf, eS, famProof_t, tProof, famClaimS_t, bne_self_eq_false, go_sem, eI, eB, ↓reduceIte, Nat.reduceEqDiff, Nat.reduceAdd, Nat.reduceLeDiff, Nat.reduceMul, Nat.reduceBEq, Nat.reduceBneDiff, Nat.reduceLT, Nat.reduceSub, Bool.false_eq_true, List.cons_append, List.nil_append]
  refine callQ_self (ds := [ePf a]) ?_ (famProof.afT a hf0) ?_
  · simp only [eG, ePf, eS, famProof_t, tProof, famClaimS_t, bne_self_eq_false]; exact rfl
  simp +contextual -implicitDefEqProofs only [eG, ePf, eS, famProof_t, tProof, famClaimS_t, bne_self_eq_false, go_sem, eI, eB, ↓reduceIte, Nat.reduceEqDiff, Nat.reduceAdd, Nat.reduceLeDiff, Nat.reduceMul, Nat.reduceBEq, Nat.reduceBneDiff, Nat.reduceLT, Nat.reduceSub, Bool.false_eq_true, List.cons_append, List.nil_append]
  refine callQ_self (ds := [ePf (famProof.t a)]) ?_ (af8 (famProof.t a)) ?_
  · simp only [eG, ePf, eS, famProof_t, tProof, famClaimS_t, bne_self_eq_false]; exact rfl
  simp +contextual -implicitDefEqProofs only [bne_self_eq_false, eG, ePf, eS, famProof_t, tProof, famClaimS_t, go_sem, eI, eB, ↓reduceIte, Nat.reduceEqDiff, Nat.reduceAdd, Nat.reduceLeDiff, Nat.reduceMul, Nat.reduceBEq, Nat.reduceBneDiff, Nat.reduceLT, Nat.reduceSub, Bool.false_eq_true, List.cons_append, List.nil_append]
  refine callQ_self (ds := [ePf a]) ?_ (famProof.afT a hf0) ?_
  · simp only [eG, ePf, eS, famProof_t, tProof, famClaimS_t, bne_self_eq_false]; exact rfl
  simp +contextual -implicitDefEqProofs only [eG, ePf, eS, famProof_t, tProof, famClaimS_t, bne_self_eq_false, go_sem, eI, eB, ↓reduceIte, Nat.reduceEqDiff, Nat.reduceAdd, Nat.reduceLeDiff, Nat.reduceMul, Nat.reduceBEq, Nat.reduceBneDiff, Nat.reduceLT, Nat.reduceSub, Bool.false_eq_true, List.cons_append, List.nil_append]
  refine callQ_self (ds := [ePf (famProof.t a), ePf (famProof.t a)]) ?_ (famProof.afQ (famProof.t a) (famProof.t a)) ?_
  · simp only [eG, ePf, eS, famProof_t, tProof, famClaimS_t, bne_self_eq_false]; exact rfl
  simp +contextual -implicitDefEqProofs only [famProof.q_refl, Bool.not_true, eG, ePf, eS, famProof_t, tProof, famClaimS_t, bne_self_eq_false, go_sem, eI, eB, ↓reduceIte, Nat.reduceEqDiff, Nat.reduceAdd, Nat.reduceLeDiff, Nat.reduceMul, Nat.reduceBEq, Nat.reduceBneDiff, Nat.reduceLT, Nat.reduceSub, Bool.false_eq_true, List.cons_append, List.nil_append]
end Go.Ax
