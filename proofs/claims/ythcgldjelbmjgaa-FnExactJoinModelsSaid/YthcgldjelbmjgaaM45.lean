/- Contracts of functions of the seat, proved over the engine. No condition. -/
import Derived.Test.YthcgldjelbmjgaaX62
import Derived.Test.YthcgldjelbmjgaaAxI
import Derived.Test.YthcgldjelbmjgaaChecked
set_option linter.unusedSimpArgs false
set_option linter.unusedVariables false
set_option linter.unnecessarySimpa false
namespace Go.Ax
open Go.Proofs
set_option linter.unusedSimpArgs false
theorem mixed : Try.prog.follows .mixedOrders = true := by kernel_rfl
theorem res169 : resF Try.prog 169 = some (12, cSzP, [.t 4]) := by kernel_rfl
theorem res85 : resF Try.prog 85 = some (27, cSzC 169 1 false, [.t 4]) := by kernel_rfl
theorem res86 : resF Try.prog 86 = some (27, cSzC 85 1 false, [.t 4]) := by kernel_rfl

def rc15 : RC := (.seq (.reg false [⟨none, .box 2 5 (.t 0)⟩, ⟨none, .mv 4 (.c (.sc (.int .i64 0)))⟩]) ((.seq (.reg false [⟨none, .fa 5 3 (.t 2)⟩, ⟨none, .ld 6 false 1 (.t 5)⟩, ⟨none, .mv 7 (.t 1)⟩, ⟨none, .call (some 8) 85 [(.t 6), (.t 7)]⟩, ⟨none, .mv 1 (.t 8)⟩]) ((.seq ((.seq (.reg false [⟨none, .mv 9 (.t 1)⟩, ⟨none, .bin 10 .lss (.t 9) (.c (.sc (.int .i64 0)))⟩]) (.cond (.t 10) ((.seq (.reg false [⟨none, .mv 4 (.c (.sc (.int .i64 (-1))))⟩]) (.ret))) (.skip)))) ((.seq (.reg false [⟨none, .fa 11 4 (.t 2)⟩, ⟨none, .ld 12 false 1 (.t 11)⟩, ⟨none, .mv 13 (.t 1)⟩, ⟨none, .call (some 14) 86 [(.t 12), (.t 13)]⟩, ⟨none, .mv 1 (.t 14)⟩]) ((.seq ((.seq (.reg false [⟨none, .mv 15 (.t 1)⟩, ⟨none, .bin 16 .lss (.t 15) (.c (.sc (.int .i64 0)))⟩]) (.cond (.t 16) ((.seq (.reg false [⟨none, .mv 4 (.c (.sc (.int .i64 (-1))))⟩]) (.ret))) (.skip)))) ((.seq (.reg false [⟨none, .mv 17 (.t 1)⟩, ⟨none, .mv 4 (.t 17)⟩]) (.ret))))))))))))
theorem res15 : resF Try.prog 15 = some (18, rc15, [.t 4]) := by kernel_rfl
theorem res50 : resF Try.prog 50 = some (11, k_toSig, [.c 2 2 true]) := by kernel_rfl
theorem af50 : K_toSig Try.prog 50 := a_toSig mixed res50
theorem res172 : resF Try.prog 172 = some (22, cToS 1 (.sc (.bool false)), [.t 2]) := by kernel_rfl
theorem res90 : resF Try.prog 90 = some (23, cToC 172 1 24 false (.ls (some true) 1 []), [.t 2]) := by kernel_rfl
theorem res91 : resF Try.prog 91 = some (23, cToC 90 1 24 false (.ls (some true) 1 []), [.t 2]) := by kernel_rfl

def rc18 : RC := (.seq (.reg false [⟨none, .box 1 5 (.t 0)⟩, ⟨none, .zer 2 5 (.ag [(.sc (.int .i64 0)), (.sc (.int .i64 0)), (.sc (.int .i64 0)), (.ls (some true) 1 []), (.ls (some true) 1 [])])⟩]) ((.seq (.reg false [⟨none, .zer 3 5 (.ag [(.sc (.int .i64 0)), (.sc (.int .i64 0)), (.sc (.int .i64 0)), (.ls (some true) 1 []), (.ls (some true) 1 [])])⟩]) ((.seq (.reg false [⟨none, .fa 4 0 (.t 1)⟩, ⟨none, .ld 5 true 2 (.t 4)⟩, ⟨none, .call (some 6) 50 [(.t 5)]⟩, ⟨none, .fa 7 0 (.t 3)⟩, ⟨none, .st 2 (.t 7) (.t 6)⟩]) ((.seq (.reg false [⟨none, .fa 8 2 (.t 1)⟩, ⟨none, .ld 9 false 1 (.t 8)⟩, ⟨none, .fa 10 2 (.t 3)⟩, ⟨none, .st 1 (.t 10) (.t 9)⟩]) ((.seq (.reg false [⟨none, .fa 11 3 (.t 1)⟩, ⟨none, .ld 12 false 1 (.t 11)⟩, ⟨none, .call (some 13) 90 [(.t 12)]⟩, ⟨none, .fa 14 3 (.t 3)⟩, ⟨none, .st 1 (.t 14) (.t 13)⟩]) ((.seq (.reg false [⟨none, .fa 15 4 (.t 1)⟩, ⟨none, .ld 16 false 1 (.t 15)⟩, ⟨none, .call (some 17) 91 [(.t 16)]⟩, ⟨none, .fa 18 4 (.t 3)⟩, ⟨none, .st 1 (.t 18) (.t 17)⟩]) ((.seq (.reg false [⟨none, .ld 19 true 5 (.t 3)⟩, ⟨none, .st 5 (.t 2) (.t 19)⟩]) (.ret))))))))))))))
theorem res18 : resF Try.prog 18 = some (20, rc18, [.c 2 5 true]) := by kernel_rfl
theorem res159 : resF Try.prog 159 = some (15, k_l00In, [.t 6]) := by kernel_rfl
theorem af159 : K_l00In Try.prog 159 := a_l00In mixed res159
theorem res148 : resF Try.prog 148 = some (11, k_l01Sig 159, [.t 2]) := by kernel_rfl
theorem af148 : K_l01Sig Try.prog 148 := a_l01Sig mixed res148 af159
theorem res186 : resF Try.prog 186 = some (36, k_l05Tests 148 159, [.t 6]) := by kernel_rfl
theorem af186 : K_l05Tests Try.prog 186 := a_l05Tests mixed res186 af148 af159
theorem res120 : resF Try.prog 120 = some (82, k_l05Ok 186, [.t 2]) := by kernel_rfl
theorem af120 : K_l05Ok Try.prog 120 := a_l05Ok mixed res120 af186
theorem res121 : resF Try.prog 121 = some (17, k_l05None, [.t 2]) := by kernel_rfl
theorem af121 : K_l05None Try.prog 121 := a_l05None mixed res121
theorem res45 : resF Try.prog 45 = some (126, k_spJoinModels 120 121, [.c 4 5 true, .t 5]) := by kernel_rfl
theorem af45 : K_spJoinModels Try.prog 45 := a_spJoinModels mixed res45 af120 af121
theorem res158 : resF Try.prog 158 = some (15, k_within, [.t 6]) := by kernel_rfl
theorem af158 : K_within Try.prog 158 := a_within mixed res158
theorem res207 : resF Try.prog 207 = some (11, k_validSig 158, [.t 2]) := by kernel_rfl
theorem af207 : K_validSig Try.prog 207 := a_validSig mixed res207 af158
theorem res226 : resF Try.prog 226 = some (24, k_isTableB, [.t 6]) := by kernel_rfl
theorem af226 : K_isTableB Try.prog 226 := a_isTableB mixed res226
theorem res173 : resF Try.prog 173 = some (46, k_isFrameB 207 158 226, [.t 8]) := by kernel_rfl
theorem af173 : K_isFrameB Try.prog 173 := a_isFrameB mixed res173 af207 af158 af226
theorem res93 : resF Try.prog 93 = some (12, k_validModel 173, [.t 2]) := by kernel_rfl
theorem af93 : K_validModel Try.prog 93 := a_validModel mixed res93 af173
def growRen : Go.Shelf.Ren := ⟨fun | 4 => 204 | n => n, fun | 22 => 117 | 25 => 4 | 3 => 3 | 4 => 4 | 9 => 9 | 20 => 20 | 0 => 0 | n => n, fun | n => n⟩
theorem growLay : Lays8.n4 Try.prog growRen := { mixed := by kernel_rfl, f4 := ⟨Try.f204.name, by decide, Try.func204.trans (congrArg some (by kernel_rfl))⟩, t0 := Try.underlying0, a0 := Try.isAgg0, z0 := Try.sizeOf0, v0 := Try.zeroValue0, t3 := Try.underlying3, a3 := Try.isAgg3, z3 := Try.sizeOf3, v3 := Try.zeroValue3, t4 := Try.underlying4, a4 := Try.isAgg4, z4 := Try.sizeOf4, v4 := Try.zeroValue4, t9 := Try.underlying9, a9 := Try.isAgg9, z9 := Try.sizeOf9, v9 := Try.zeroValue9, t20 := Try.underlying20, a20 := Try.isAgg20, z20 := Try.sizeOf20, v20 := Try.zeroValue20, t22 := Try.underlying117, a22 := Try.isAgg117, z22 := Try.sizeOf117, v22 := Try.zeroValue117 }
theorem growE : growRen.f 4 = 204 := rfl
theorem growO : oneB Try.prog (growRen.t 25) = true := by kernel_rfl
theorem af204 : K_growB Try.prog 204 := by
  have h := grow_K growLay growO
  rw [growE] at h
  exact h
theorem res122 : resF Try.prog 122 = some (36, k_concatB 204 (othF Try.prog 122 0) (othF Try.prog 122 1), [.t 2]) := by kernel_rfl
theorem af122 : K_concatB Try.prog 122 := a_concatB mixed res122 af204
theorem res123 : resF Try.prog 123 = some (33, k_tableB, [.t 4]) := by kernel_rfl
theorem af123 : K_tableB Try.prog 123 := a_tableB mixed res123
theorem res124 : resF Try.prog 124 = some (52, k_joinModels1, [.t 7]) := by kernel_rfl
theorem af124 : K_joinModels1 Try.prog 124 := a_joinModels1 mixed res124
theorem res46 : resF Try.prog 46 = some (77, k_imJoinModels 93 122 123 124, [.c 4 5 true, .t 5]) := by kernel_rfl
theorem af46 : K_imJoinModels Try.prog 46 := a_imJoinModels mixed res46 af93 af122 af123 af124
theorem res99 : resF Try.prog 99 = some (15, k_eqSig, [.t 4]) := by kernel_rfl
theorem af99 : K_eqSig Try.prog 99 := a_eqSig mixed res99
theorem res182 : resF Try.prog 182 = some (26, cEqB, [.t 4]) := by kernel_rfl
theorem res100 : resF Try.prog 100 = some (27, cEqC 182 1 false, [.t 4]) := by kernel_rfl
theorem res101 : resF Try.prog 101 = some (27, cEqC 100 1 false, [.t 4]) := by kernel_rfl

def rc23 : RC := (.seq (.reg false [⟨none, .box 2 5 (.t 0)⟩, ⟨none, .box 3 5 (.t 1)⟩, ⟨none, .mv 4 (.c (.sc (.bool false)))⟩]) ((.seq ((.seq (.reg false [⟨none, .fa 5 0 (.t 2)⟩, ⟨none, .ld 6 true 2 (.t 5)⟩, ⟨none, .fa 7 0 (.t 3)⟩, ⟨none, .ld 8 true 2 (.t 7)⟩, ⟨none, .call (some 9) 99 [(.t 6), (.t 8)]⟩, ⟨none, .un 10 .not (.t 9)⟩]) (.cond (.t 10) ((.seq (.reg false [⟨none, .mv 4 (.c (.sc (.bool false)))⟩]) (.ret))) (.skip)))) ((.seq ((.seq (.reg false [⟨none, .fa 11 2 (.t 2)⟩, ⟨none, .ld 12 false 1 (.t 11)⟩, ⟨none, .fa 13 2 (.t 3)⟩, ⟨none, .ld 14 false 1 (.t 13)⟩, ⟨none, .bin 15 .neq (.t 12) (.t 14)⟩]) (.cond (.t 15) ((.seq (.reg false [⟨none, .mv 4 (.c (.sc (.bool false)))⟩]) (.ret))) (.skip)))) ((.seq ((.seq (.reg false [⟨none, .fa 16 3 (.t 2)⟩, ⟨none, .ld 17 false 1 (.t 16)⟩, ⟨none, .fa 18 3 (.t 3)⟩, ⟨none, .ld 19 false 1 (.t 18)⟩, ⟨none, .call (some 20) 100 [(.t 17), (.t 19)]⟩, ⟨none, .un 21 .not (.t 20)⟩]) (.cond (.t 21) ((.seq (.reg false [⟨none, .mv 4 (.c (.sc (.bool false)))⟩]) (.ret))) (.skip)))) ((.seq ((.seq (.reg false [⟨none, .fa 22 4 (.t 2)⟩, ⟨none, .ld 23 false 1 (.t 22)⟩, ⟨none, .fa 24 4 (.t 3)⟩, ⟨none, .ld 25 false 1 (.t 24)⟩, ⟨none, .call (some 26) 101 [(.t 23), (.t 25)]⟩, ⟨none, .un 27 .not (.t 26)⟩]) (.cond (.t 27) ((.seq (.reg false [⟨none, .mv 4 (.c (.sc (.bool false)))⟩]) (.ret))) (.skip)))) ((.seq (.reg false [⟨none, .mv 4 (.c (.sc (.bool true)))⟩]) (.ret))))))))))))
theorem res23 : resF Try.prog 23 = some (28, rc23, [.t 4]) := by kernel_rfl
theorem res205 : resF Try.prog 205 = some (23, cHdB, [.t 4]) := by kernel_rfl
theorem res125 : resF Try.prog 125 = some (21, cHdC 205, [.t 4]) := by kernel_rfl
theorem res126 : resF Try.prog 126 = some (21, cHdC 125, [.t 4]) := by kernel_rfl

def rc47 : RC := (.seq (.reg false [⟨none, .box 2 5 (.t 0)⟩, ⟨none, .mv 4 (.c (.sc (.int .i64 0)))⟩]) ((.seq (.reg false [⟨none, .fa 5 3 (.t 2)⟩, ⟨none, .ld 6 false 1 (.t 5)⟩, ⟨none, .mv 7 (.t 1)⟩, ⟨none, .call (some 8) 125 [(.t 6), (.t 7)]⟩, ⟨none, .mv 1 (.t 8)⟩]) ((.seq ((.seq (.reg false [⟨none, .mv 9 (.t 1)⟩, ⟨none, .bin 10 .lss (.t 9) (.c (.sc (.int .i64 0)))⟩]) (.cond (.t 10) ((.seq (.reg false [⟨none, .mv 4 (.c (.sc (.int .i64 (-1))))⟩]) (.ret))) (.skip)))) ((.seq (.reg false [⟨none, .fa 11 4 (.t 2)⟩, ⟨none, .ld 12 false 1 (.t 11)⟩, ⟨none, .mv 13 (.t 1)⟩, ⟨none, .call (some 14) 126 [(.t 12), (.t 13)]⟩, ⟨none, .mv 1 (.t 14)⟩]) ((.seq ((.seq (.reg false [⟨none, .mv 15 (.t 1)⟩, ⟨none, .bin 16 .lss (.t 15) (.c (.sc (.int .i64 0)))⟩]) (.cond (.t 16) ((.seq (.reg false [⟨none, .mv 4 (.c (.sc (.int .i64 (-1))))⟩]) (.ret))) (.skip)))) ((.seq (.reg false [⟨none, .mv 17 (.t 1)⟩, ⟨none, .mv 4 (.t 17)⟩]) (.ret))))))))))))
theorem res47 : resF Try.prog 47 = some (18, rc47, [.t 4]) := by kernel_rfl
theorem res183 : resF Try.prog 183 = some (21, cMkB, [.t 4]) := by kernel_rfl
theorem res103 : resF Try.prog 103 = some (19, cMkC 183, [.t 4]) := by kernel_rfl
theorem res104 : resF Try.prog 104 = some (19, cMkC 103, [.t 4]) := by kernel_rfl

def rc25 : RC := (.seq (.reg false [⟨none, .box 2 5 (.t 0)⟩, ⟨none, .mv 4 (.c (.sc (.int .i64 0)))⟩]) ((.seq (.reg false [⟨none, .fa 5 3 (.t 2)⟩, ⟨none, .ld 6 false 1 (.t 5)⟩, ⟨none, .mv 7 (.t 1)⟩, ⟨none, .mcl 8 103 (.t 6) (.t 7)⟩, ⟨none, .mv 1 (.t 8)⟩]) ((.seq (.reg false [⟨none, .fa 9 4 (.t 2)⟩, ⟨none, .ld 10 false 1 (.t 9)⟩, ⟨none, .mv 11 (.t 1)⟩, ⟨none, .mcl 12 104 (.t 10) (.t 11)⟩, ⟨none, .mv 1 (.t 12)⟩]) ((.seq (.reg false [⟨none, .mv 13 (.t 1)⟩, ⟨none, .mv 4 (.t 13)⟩]) (.ret))))))))
theorem res25 : resF Try.prog 25 = some (14, rc25, [.t 4]) := by kernel_rfl

def rc7 : RC := (.seq (.reg false [⟨none, .box 2 5 (.t 0)⟩, ⟨none, .box 3 5 (.t 1)⟩, ⟨none, .mv 4 (.c (.sc (.bool false)))⟩]) ((.seq (.reg false [⟨none, .mv 5 (.c (.sc (.int .i64 1048576)))⟩]) ((.seq (.reg false [⟨none, .ld 17 true 5 (.t 2)⟩, ⟨none, .mv 18 (.t 5)⟩, ⟨none, .call (some 19) 15 [(.t 17), (.t 18)]⟩, ⟨none, .mv 5 (.t 19)⟩]) ((.seq ((.seq (.reg false [⟨none, .mv 20 (.t 5)⟩, ⟨none, .bin 21 .lss (.t 20) (.c (.sc (.int .i64 0)))⟩]) (.cond (.t 21) ((.seq (.reg false [⟨none, .mv 4 (.c (.sc (.bool true)))⟩]) (.ret))) (.skip)))) ((.seq (.reg false [⟨none, .ld 22 true 5 (.t 3)⟩, ⟨none, .mv 23 (.t 5)⟩, ⟨none, .call (some 24) 15 [(.t 22), (.t 23)]⟩, ⟨none, .mv 5 (.t 24)⟩]) ((.seq ((.seq (.reg false [⟨none, .mv 25 (.t 5)⟩, ⟨none, .bin 26 .lss (.t 25) (.c (.sc (.int .i64 0)))⟩]) (.cond (.t 26) ((.seq (.reg false [⟨none, .mv 4 (.c (.sc (.bool true)))⟩]) (.ret))) (.skip)))) ((.seq (.reg true [⟨none, .ld 28 true 5 (.t 2)⟩, ⟨none, .call (some 29) 18 [(.t 28)]⟩, ⟨none, .ld 30 true 5 (.t 3)⟩, ⟨none, .call (some 31) 18 [(.t 30)]⟩, ⟨none, .call (some 32) 45 [(.t 29), (.t 31)]⟩, ⟨none, .mv 27 (.t 32)⟩, ⟨none, .ext 33 (.t 27) 0⟩, ⟨none, .ext 34 (.t 27) 1⟩, ⟨none, .zer 6 5 (.ag [(.sc (.int .i64 0)), (.sc (.int .i64 0)), (.sc (.int .i64 0)), (.ls (some true) 1 []), (.ls (some true) 1 [])])⟩, ⟨none, .st 5 (.t 6) (.t 33)⟩, ⟨none, .mv 7 (.t 34)⟩]) ((.seq (.reg false [⟨none, .ld 35 true 5 (.t 2)⟩, ⟨none, .call (some 36) 18 [(.t 35)]⟩, ⟨none, .zer 8 5 (.ag [(.sc (.int .i64 0)), (.sc (.int .i64 0)), (.sc (.int .i64 0)), (.ls (some true) 1 []), (.ls (some true) 1 [])])⟩, ⟨none, .st 5 (.t 8) (.t 36)⟩]) ((.seq (.reg false [⟨none, .ld 37 true 5 (.t 3)⟩, ⟨none, .call (some 38) 18 [(.t 37)]⟩, ⟨none, .zer 9 5 (.ag [(.sc (.int .i64 0)), (.sc (.int .i64 0)), (.sc (.int .i64 0)), (.ls (some true) 1 []), (.ls (some true) 1 [])])⟩, ⟨none, .st 5 (.t 9) (.t 38)⟩]) ((.seq (.reg false [⟨none, .ld 40 true 5 (.t 8)⟩, ⟨none, .ld 41 true 5 (.t 9)⟩, ⟨none, .call (some 42) 46 [(.t 40), (.t 41)]⟩, ⟨none, .mv 39 (.t 42)⟩, ⟨none, .ext 43 (.t 39) 0⟩, ⟨none, .ext 44 (.t 39) 1⟩, ⟨none, .zer 10 5 (.ag [(.sc (.int .i64 0)), (.sc (.int .i64 0)), (.sc (.int .i64 0)), (.ls (some true) 1 []), (.ls (some true) 1 [])])⟩, ⟨none, .st 5 (.t 10) (.t 43)⟩, ⟨none, .mv 11 (.t 44)⟩]) ((.seq ((.seq (.reg false [⟨none, .ld 45 true 5 (.t 10)⟩, ⟨none, .ld 46 true 5 (.t 6)⟩, ⟨none, .call (some 47) 23 [(.t 45), (.t 46)]⟩, ⟨none, .un 48 .not (.t 47)⟩, ⟨none, .mv 49 (.t 48)⟩, ⟨some (49, false), .mv 50 (.t 11)⟩, ⟨some (49, false), .mv 51 (.t 7)⟩, ⟨some (49, false), .bin 52 .neq (.t 50) (.t 51)⟩, ⟨none, .pick 53 (.t 49) (.c (.sc (.bool true))) (.t 52)⟩]) (.cond (.t 53) ((.seq (.reg false [⟨none, .mv 4 (.c (.sc (.bool false)))⟩]) (.ret))) (.skip)))) ((.seq ((.seq (.reg true [⟨none, .ld 54 true 5 (.t 8)⟩, ⟨none, .ld 55 true 5 (.t 2)⟩, ⟨none, .call (some 56) 18 [(.t 55)]⟩, ⟨none, .call (some 57) 23 [(.t 54), (.t 56)]⟩, ⟨none, .un 58 .not (.t 57)⟩]) (.cond (.t 58) ((.seq (.reg false [⟨none, .mv 4 (.c (.sc (.bool false)))⟩]) (.ret))) (.skip)))) ((.seq ((.seq (.reg true [⟨none, .ld 59 true 5 (.t 9)⟩, ⟨none, .ld 60 true 5 (.t 3)⟩, ⟨none, .call (some 61) 18 [(.t 60)]⟩, ⟨none, .call (some 62) 23 [(.t 59), (.t 61)]⟩, ⟨none, .un 63 .not (.t 62)⟩]) (.cond (.t 63) ((.seq (.reg false [⟨none, .mv 4 (.c (.sc (.bool false)))⟩]) (.ret))) (.skip)))) ((.seq (.reg false [⟨none, .mv 12 (.c (.sc (.int .i64 1)))⟩]) ((.seq (.reg false [⟨none, .ld 64 true 5 (.t 8)⟩, ⟨none, .mv 65 (.t 12)⟩, ⟨none, .mcl 66 25 (.t 64) (.t 65)⟩, ⟨none, .mv 12 (.t 66)⟩]) ((.seq (.reg false [⟨none, .ld 67 true 5 (.t 9)⟩, ⟨none, .mv 68 (.t 12)⟩, ⟨none, .mcl 69 25 (.t 67) (.t 68)⟩, ⟨none, .mv 12 (.t 69)⟩]) ((.seq ((.seq (.reg false [⟨none, .mv 70 (.t 12)⟩, ⟨none, .bin 71 .lss (.t 70) (.c (.sc (.int .i64 0)))⟩, ⟨none, .mv 72 (.t 71)⟩, ⟨some (72, false), .ld 73 true 5 (.t 10)⟩, ⟨some (72, false), .ld 74 true 5 (.t 6)⟩, ⟨some (72, false), .call (some 75) 23 [(.t 73), (.t 74)]⟩, ⟨some (72, false), .un 76 .not (.t 75)⟩, ⟨none, .pick 77 (.t 72) (.c (.sc (.bool true))) (.t 76)⟩, ⟨none, .mv 78 (.t 77)⟩, ⟨some (78, false), .mv 79 (.t 11)⟩, ⟨some (78, false), .mv 80 (.t 7)⟩, ⟨some (78, false), .bin 81 .neq (.t 79) (.t 80)⟩, ⟨none, .pick 82 (.t 78) (.c (.sc (.bool true))) (.t 81)⟩]) (.cond (.t 82) ((.seq (.reg false [⟨none, .mv 4 (.c (.sc (.bool false)))⟩]) (.ret))) (.skip)))) ((.seq (.reg false [⟨none, .mv 13 (.c (.sc (.int .i64 1)))⟩]) ((.seq (.reg false [⟨none, .ld 83 true 5 (.t 10)⟩, ⟨none, .mv 84 (.t 13)⟩, ⟨none, .mcl 85 25 (.t 83) (.t 84)⟩, ⟨none, .mv 13 (.t 85)⟩]) ((.seq (.reg false [⟨none, .mv 14 (.c (.sc (.int .i64 1)))⟩]) ((.seq (.reg false [⟨none, .ld 86 true 5 (.t 10)⟩, ⟨none, .mv 87 (.t 14)⟩, ⟨none, .call (some 88) 47 [(.t 86), (.t 87)]⟩, ⟨none, .mv 14 (.t 88)⟩]) ((.seq ((.seq (.reg false [⟨none, .mv 89 (.t 14)⟩, ⟨none, .bin 90 .lss (.t 89) (.c (.sc (.int .i64 0)))⟩]) (.cond (.t 90) ((.seq (.reg false [⟨none, .mv 4 (.c (.sc (.bool false)))⟩]) (.ret))) (.skip)))) ((.seq ((.seq (.reg false [⟨none, .mv 91 (.t 14)⟩, ⟨none, .mv 92 (.t 13)⟩, ⟨none, .bin 93 .neq (.t 91) (.t 92)⟩]) (.cond (.t 93) ((.seq (.reg false [⟨none, .mv 4 (.c (.sc (.bool false)))⟩]) (.ret))) (.skip)))) ((.seq (.reg true [⟨none, .ld 95 true 5 (.t 2)⟩, ⟨none, .call (some 96) 18 [(.t 95)]⟩, ⟨none, .ld 97 true 5 (.t 3)⟩, ⟨none, .call (some 98) 18 [(.t 97)]⟩, ⟨none, .call (some 99) 46 [(.t 96), (.t 98)]⟩, ⟨none, .mv 94 (.t 99)⟩, ⟨none, .ext 100 (.t 94) 0⟩, ⟨none, .ext 101 (.t 94) 1⟩, ⟨none, .zer 15 5 (.ag [(.sc (.int .i64 0)), (.sc (.int .i64 0)), (.sc (.int .i64 0)), (.ls (some true) 1 []), (.ls (some true) 1 [])])⟩, ⟨none, .st 5 (.t 15) (.t 100)⟩, ⟨none, .mv 16 (.t 101)⟩]) ((.seq ((.seq (.reg false [⟨none, .ld 102 true 5 (.t 15)⟩, ⟨none, .ld 103 true 5 (.t 6)⟩, ⟨none, .call (some 104) 23 [(.t 102), (.t 103)]⟩, ⟨none, .un 105 .not (.t 104)⟩, ⟨none, .mv 106 (.t 105)⟩, ⟨some (106, false), .mv 107 (.t 16)⟩, ⟨some (106, false), .mv 108 (.t 7)⟩, ⟨some (106, false), .bin 109 .neq (.t 107) (.t 108)⟩, ⟨none, .pick 110 (.t 106) (.c (.sc (.bool true))) (.t 109)⟩]) (.cond (.t 110) ((.seq (.reg false [⟨none, .mv 4 (.c (.sc (.bool false)))⟩]) (.ret))) (.skip)))) ((.seq (.reg false [⟨none, .mv 14 (.c (.sc (.int .i64 1)))⟩]) ((.seq (.reg false [⟨none, .ld 111 true 5 (.t 10)⟩, ⟨none, .mv 112 (.t 14)⟩, ⟨none, .call (some 113) 47 [(.t 111), (.t 112)]⟩, ⟨none, .mv 14 (.t 113)⟩]) ((.seq ((.seq (.reg false [⟨none, .mv 114 (.t 14)⟩, ⟨none, .bin 115 .lss (.t 114) (.c (.sc (.int .i64 0)))⟩]) (.cond (.t 115) ((.seq (.reg false [⟨none, .mv 4 (.c (.sc (.bool false)))⟩]) (.ret))) (.skip)))) ((.seq ((.seq (.reg false [⟨none, .mv 116 (.t 14)⟩, ⟨none, .mv 117 (.t 13)⟩, ⟨none, .bin 118 .neq (.t 116) (.t 117)⟩]) (.cond (.t 118) ((.seq (.reg false [⟨none, .mv 4 (.c (.sc (.bool false)))⟩]) (.ret))) (.skip)))) ((.seq (.reg false [⟨none, .mv 4 (.c (.sc (.bool true)))⟩]) (.ret))))))))))))))))))))))))))))))))))))))))))))))))))))))))))))
theorem res7 : resF Try.prog 7 = some (119, rc7, [.t 4]) := by kernel_rfl
noncomputable def famBoolS : Fam Try.prog (eS 1 eB) 169 172 182 := famP mixed encB noB ⟨rfl, rfl, rfl⟩ (by omega) res169 res172 (eqL fun x y => x == y) (fun _ => eqL_refl fun _ _ => by simp) fun a b => af_eqB mixed res182 a b
theorem famBoolS_t (x) : famBoolS.t x = (some false, x.2) := rfl
noncomputable def famBoolSS : Fam Try.prog (eS 1 (eS 1 eB)) 85 90 100 := famC mixed famBoolS (encS eB 1) ⟨rfl, rfl, rfl⟩ (by omega) res85 res90 res100
theorem famBoolSS_t (x) : famBoolSS.t x = (some false, x.2.map famBoolS.t) := rfl
noncomputable def famBoolSSS : Fam Try.prog (eS 1 (eS 1 (eS 1 eB))) 86 91 101 := famC mixed famBoolSS (encS (eS 1 eB) 1) ⟨rfl, rfl, rfl⟩ (by omega) res86 res91 res101
theorem famBoolSSS_t (x) : famBoolSSS.t x = (some false, x.2.map famBoolSS.t) := rfl
noncomputable def szModel (m : Mo) : Int → Int := fun l => nx (famBoolSS.s m.2.2.1 l) (fun l => nx (famBoolSSS.s m.2.2.2 l) (fun l => l))
def fitModel (m : Mo) : Prop := famBoolSS.fit m.2.2.1 ∧ famBoolSSS.fit m.2.2.2
noncomputable def tModel (m : Mo) : Mo := (m.1, m.2.1, famBoolSS.t m.2.2.1, famBoolSSS.t m.2.2.2)
noncomputable def qModel (a b : Mo) : Bool := (qG a.1 b.1 && ((a.2.1 == b.2.1) && (famBoolSS.q a.2.2.1 b.2.2.1 && famBoolSSS.q a.2.2.2 b.2.2.2)))
theorem szModel_in (m : Mo) (l : Int) (h1 : 0 ≤ l) (h2 : l ≤ 1048576) : -1 ≤ szModel m l ∧ szModel m l ≤ l := by
  refine in_tr (Int.le_refl l) (nx_in (famBoolSS.s_in m.2.2.1 l h1 (by omega)) h1 (by omega) fun y0 a0 b0 => ?_)
  refine in_tr b0 (nx_in (famBoolSSS.s_in m.2.2.2 y0 a0 (by omega)) a0 (by omega) fun y1 a1 b1 => ?_)
  exact ⟨by omega, b1⟩
theorem szModel_fit (m : Mo) (l : Int) (h2 : l ≤ 1048576) (h1 : 0 ≤ l) (h : 0 ≤ szModel m l) : fitModel m := by
  obtain ⟨p0, h⟩ := nx_fit h
  have e0 := famBoolSS.s_fit m.2.2.1 l (by omega) h1 p0
  have b0 := famBoolSS.s_in m.2.2.1 l h1 (by omega)
  obtain ⟨p1, h⟩ := nx_fit h
  have e1 := famBoolSSS.s_fit m.2.2.2 _ (by omega) p0 p1
  have b1 := famBoolSSS.s_in m.2.2.2 (famBoolSS.s m.2.2.1 l) p0 (by omega)
  exact ⟨e0, e1⟩
theorem af15 (m : Mo) (l : Int) (h1 : 0 ≤ l) (h2 : l ≤ 1048576) : AF Try.prog 15 [eM m, eI l] (.own (eI (szModel m l))) := by
  refine af_of_res res15 mixed rfl fun _ => ?_
  simp +contextual -implicitDefEqProofs only [rc15, eM, eG, eS, go_sem, eI, eB, ↓reduceIte, Nat.reduceEqDiff, Nat.reduceAdd, Nat.reduceLeDiff, Nat.reduceMul, Nat.reduceBEq, Nat.reduceBneDiff, Nat.reduceLT, Nat.reduceSub, Bool.false_eq_true, List.cons_append, List.nil_append]
  refine callQ_self ?_ (famBoolSS.afS m.2.2.1 l (by omega) (by omega)) ?_
  · exact rfl
  simp +contextual -implicitDefEqProofs only [eM, eG, eS, go_sem, eI, eB, ↓reduceIte, Nat.reduceEqDiff, Nat.reduceAdd, Nat.reduceLeDiff, Nat.reduceMul, Nat.reduceBEq, Nat.reduceBneDiff, Nat.reduceLT, Nat.reduceSub, Bool.false_eq_true, List.cons_append, List.nil_append]
  have b0 := famBoolSS.s_in m.2.2.1 l (by omega) (by omega)
  refine ⟨fun h => D.Le.sc_eq (by simp only [szModel]; rw [nx_neg h]), fun g0 => ?_⟩
  refine callQ_self ?_ (famBoolSSS.afS m.2.2.2 (famBoolSS.s m.2.2.1 l) (by omega) (by omega)) ?_
  · exact rfl
  simp +contextual -implicitDefEqProofs only [eM, eG, eS, go_sem, eI, eB, ↓reduceIte, Nat.reduceEqDiff, Nat.reduceAdd, Nat.reduceLeDiff, Nat.reduceMul, Nat.reduceBEq, Nat.reduceBneDiff, Nat.reduceLT, Nat.reduceSub, Bool.false_eq_true, List.cons_append, List.nil_append]
  have b1 := famBoolSSS.s_in m.2.2.2 (famBoolSS.s m.2.2.1 l) (by omega) (by omega)
  refine ⟨fun h => D.Le.sc_eq (by simp only [szModel]; rw [nx_pos g0, nx_neg h]), fun g1 => ?_⟩
  exact D.Le.sc_eq (by simp only [szModel]; rw [nx_pos g0, nx_pos g1])
theorem af18 (m : Mo) (h : fitModel m) : AF Try.prog 18 [eM m] (.own (eM (tModel m))) := by
  refine af_of_res res18 mixed rfl fun _ => ?_
  simp +contextual -implicitDefEqProofs only [rc18, eM, eG, eS, tModel, famBoolSS_t, famBoolSSS_t, go_sem, eI, eB, ↓reduceIte, Nat.reduceEqDiff, Nat.reduceAdd, Nat.reduceLeDiff, Nat.reduceMul, Nat.reduceBEq, Nat.reduceBneDiff, Nat.reduceLT, Nat.reduceSub, Bool.false_eq_true, List.cons_append, List.nil_append]
  refine callQ_self ?_ (af50 m.1) ?_
  · exact rfl
  simp +contextual -implicitDefEqProofs only [eM, eG, eS, tModel, famBoolSS_t, famBoolSSS_t, go_sem, eI, eB, ↓reduceIte, Nat.reduceEqDiff, Nat.reduceAdd, Nat.reduceLeDiff, Nat.reduceMul, Nat.reduceBEq, Nat.reduceBneDiff, Nat.reduceLT, Nat.reduceSub, Bool.false_eq_true, List.cons_append, List.nil_append]
  refine callQ_self ?_ (famBoolSS.afT m.2.2.1 h.1) ?_
  · exact rfl
  simp +contextual -implicitDefEqProofs only [eM, eG, eS, tModel, famBoolSS_t, famBoolSSS_t, go_sem, eI, eB, ↓reduceIte, Nat.reduceEqDiff, Nat.reduceAdd, Nat.reduceLeDiff, Nat.reduceMul, Nat.reduceBEq, Nat.reduceBneDiff, Nat.reduceLT, Nat.reduceSub, Bool.false_eq_true, List.cons_append, List.nil_append]
  refine callQ_self ?_ (famBoolSSS.afT m.2.2.2 h.2) ?_
  · exact rfl
  simp +contextual -implicitDefEqProofs only [eM, eG, eS, tModel, famBoolSS_t, famBoolSSS_t, go_sem, eI, eB, ↓reduceIte, Nat.reduceEqDiff, Nat.reduceAdd, Nat.reduceLeDiff, Nat.reduceMul, Nat.reduceBEq, Nat.reduceBneDiff, Nat.reduceLT, Nat.reduceSub, Bool.false_eq_true, List.cons_append, List.nil_append]
theorem af23 (a b : Mo) : AF Try.prog 23 [eM a, eM b] (.own (eB (qModel a b))) := by
  refine af_of_res res23 mixed rfl fun _ => ?_
  simp +contextual -implicitDefEqProofs only [rc23, qModel, bne, Bool.not_true, Bool.not_false, Bool.true_and, Bool.false_and, Bool.and_true, Bool.and_false, eM, eG, eS, go_sem, eI, eB, ↓reduceIte, Nat.reduceEqDiff, Nat.reduceAdd, Nat.reduceLeDiff, Nat.reduceMul, Nat.reduceBEq, Nat.reduceBneDiff, Nat.reduceLT, Nat.reduceSub, Bool.false_eq_true, List.cons_append, List.nil_append]
  refine callQ_self ?_ (af99 a.1 b.1) ?_
  · exact rfl
  cases e0 : qG a.1 b.1
  · simp +contextual -implicitDefEqProofs only [qModel, bne, Bool.not_true, Bool.not_false, Bool.true_and, Bool.false_and, Bool.and_true, Bool.and_false, eM, eG, eS, e0, go_sem, eI, eB, ↓reduceIte, Nat.reduceEqDiff, Nat.reduceAdd, Nat.reduceLeDiff, Nat.reduceMul, Nat.reduceBEq, Nat.reduceBneDiff, Nat.reduceLT, Nat.reduceSub, Bool.false_eq_true, List.cons_append, List.nil_append]
  cases e1 : (a.2.1 == b.2.1)
  · simp +contextual -implicitDefEqProofs only [qModel, bne, Bool.not_true, Bool.not_false, Bool.true_and, Bool.false_and, Bool.and_true, Bool.and_false, eM, eG, eS, e0, e1, go_sem, eI, eB, ↓reduceIte, Nat.reduceEqDiff, Nat.reduceAdd, Nat.reduceLeDiff, Nat.reduceMul, Nat.reduceBEq, Nat.reduceBneDiff, Nat.reduceLT, Nat.reduceSub, Bool.false_eq_true, List.cons_append, List.nil_append]
  simp +contextual -implicitDefEqProofs only [qModel, bne, Bool.not_true, Bool.not_false, Bool.true_and, Bool.false_and, Bool.and_true, Bool.and_false, eM, eG, eS, e0, e1, go_sem, eI, eB, ↓reduceIte, Nat.reduceEqDiff, Nat.reduceAdd, Nat.reduceLeDiff, Nat.reduceMul, Nat.reduceBEq, Nat.reduceBneDiff, Nat.reduceLT, Nat.reduceSub, Bool.false_eq_true, List.cons_append, List.nil_append]
  refine callQ_self ?_ (famBoolSS.afQ a.2.2.1 b.2.2.1) ?_
  · exact rfl
  cases e2 : famBoolSS.q a.2.2.1 b.2.2.1
  · simp +contextual -implicitDefEqProofs only [qModel, bne, Bool.not_true, Bool.not_false, Bool.true_and, Bool.false_and, Bool.and_true, Bool.and_false, eM, eG, eS, e0, e1, e2, go_sem, eI, eB, ↓reduceIte, Nat.reduceEqDiff, Nat.reduceAdd, Nat.reduceLeDiff, Nat.reduceMul, Nat.reduceBEq, Nat.reduceBneDiff, Nat.reduceLT, Nat.reduceSub, Bool.false_eq_true, List.cons_append, List.nil_append]
  simp +contextual -implicitDefEqProofs only [qModel, bne, Bool.not_true, Bool.not_false, Bool.true_and, Bool.false_and, Bool.and_true, Bool.and_false, eM, eG, eS, e0, e1, e2, go_sem, eI, eB, ↓reduceIte, Nat.reduceEqDiff, Nat.reduceAdd, Nat.reduceLeDiff, Nat.reduceMul, Nat.reduceBEq, Nat.reduceBneDiff, Nat.reduceLT, Nat.reduceSub, Bool.false_eq_true, List.cons_append, List.nil_append]
  refine callQ_self ?_ (famBoolSSS.afQ a.2.2.2 b.2.2.2) ?_
  · exact rfl
  cases e3 : famBoolSSS.q a.2.2.2 b.2.2.2
  · simp +contextual -implicitDefEqProofs only [qModel, bne, Bool.not_true, Bool.not_false, Bool.true_and, Bool.false_and, Bool.and_true, Bool.and_false, eM, eG, eS, e0, e1, e2, e3, go_sem, eI, eB, ↓reduceIte, Nat.reduceEqDiff, Nat.reduceAdd, Nat.reduceLeDiff, Nat.reduceMul, Nat.reduceBEq, Nat.reduceBneDiff, Nat.reduceLT, Nat.reduceSub, Bool.false_eq_true, List.cons_append, List.nil_append]
  · simp +contextual -implicitDefEqProofs only [qModel, bne, Bool.not_true, Bool.not_false, Bool.true_and, Bool.false_and, Bool.and_true, Bool.and_false, eM, eG, eS, e0, e1, e2, e3, go_sem, eI, eB, ↓reduceIte, Nat.reduceEqDiff, Nat.reduceAdd, Nat.reduceLeDiff, Nat.reduceMul, Nat.reduceBEq, Nat.reduceBneDiff, Nat.reduceLT, Nat.reduceSub, Bool.false_eq_true, List.cons_append, List.nil_append]
theorem qModel_refl (m : Mo) : qModel m m = true := by simp [qModel, qG, famBoolSS.q_refl, famBoolSSS.q_refl]
noncomputable def famModel : Fam Try.prog eM 15 18 23 := ⟨szModel, tModel, qModel, fitModel, szModel_in, szModel_fit, qModel_refl, af15, af18, af23⟩
theorem famModel_t (x) : famModel.t x = tModel x := rfl
noncomputable def hfBoolS : HFam Try.prog (eS 1 eB) famBoolS.s famBoolS.t 183 205 := hfB mixed (fun _ _ => rfl) (fun _ => rfl) res183 res205
noncomputable def hfBoolSS : HFam Try.prog (eS 1 (eS 1 eB)) famBoolSS.s famBoolSS.t 103 125 := hfC mixed famBoolS (encS eB 1) hfBoolS (fun _ => rfl) res103 res125
noncomputable def hfBoolSSS : HFam Try.prog (eS 1 (eS 1 (eS 1 eB))) famBoolSSS.s famBoolSSS.t 104 126 := hfC mixed famBoolSS (encS (eS 1 eB) 1) hfBoolSS (fun _ => rfl) res104 res126
noncomputable def mrkModel (m : Mo) (k : Int) : Mo := (m.1, m.2.1, hfBoolSS.mrk m.2.2.1 k, hfBoolSSS.mrk m.2.2.2 (k + hfBoolSS.cnt m.2.2.1))
noncomputable def cntModel (m : Mo) : Nat := hfBoolSS.cnt m.2.2.1 + hfBoolSSS.cnt m.2.2.2
theorem mk_Model (m : Mo) (k : Int) (h0 : 0 ≤ k) (h1 : k + cntModel m ≤ maxK) : AFM Try.prog 25 (eM m) k (eM (mrkModel m k)) (k + cntModel m) := by
  unfold cntModel at h1 ⊢
  refine afm_ag res25 (by omega) rfl fun hbd => ?_
  simp +contextual -implicitDefEqProofs only [rc25, eM, eG, eS, eI, D.at, D.sub, D.put, D.cells, D.size, D.sizeL, D.isAg, go_sem, eB, ↓reduceIte, Nat.reduceEqDiff, Nat.reduceAdd, Nat.reduceLeDiff, Nat.reduceMul, Nat.reduceBEq, Nat.reduceBneDiff, Nat.reduceLT, Nat.reduceSub, Bool.false_eq_true, List.cons_append, List.nil_append, Int.ofNat_lt, List.length_map, Int.natCast_nonneg]
  refine mMcl_self (e' := eS 1 (eS 1 eB) (hfBoolSS.mrk m.2.2.1 k)) (n' := k + hfBoolSS.cnt m.2.2.1) ?_ rfl (.inr rfl) ?_
  · exact hfBoolSS.afM m.2.2.1 k (by omega) (by omega)
  simp +contextual -implicitDefEqProofs only [eM, eG, eS, eI, D.at, D.sub, D.put, D.cells, D.size, D.sizeL, D.isAg, mrkModel, go_sem, eB, ↓reduceIte, Nat.reduceEqDiff, Nat.reduceAdd, Nat.reduceLeDiff, Nat.reduceMul, Nat.reduceBEq, Nat.reduceBneDiff, Nat.reduceLT, Nat.reduceSub, Bool.false_eq_true, List.cons_append, List.nil_append, Int.ofNat_lt, List.length_map, Int.natCast_nonneg]
  refine mMcl_self (e' := eS 1 (eS 1 (eS 1 eB)) (hfBoolSSS.mrk m.2.2.2 (k + hfBoolSS.cnt m.2.2.1))) (n' := k + hfBoolSS.cnt m.2.2.1 + hfBoolSSS.cnt m.2.2.2) ?_ rfl (.inr rfl) ?_
  · exact hfBoolSSS.afM m.2.2.2 (k + hfBoolSS.cnt m.2.2.1) (by omega) (by omega)
  simp +contextual -implicitDefEqProofs only [eM, eG, eS, eI, D.at, D.sub, D.put, D.cells, D.size, D.sizeL, D.isAg, mrkModel, go_sem, eB, ↓reduceIte, Nat.reduceEqDiff, Nat.reduceAdd, Nat.reduceLeDiff, Nat.reduceMul, Nat.reduceBEq, Nat.reduceBneDiff, Nat.reduceLT, Nat.reduceSub, Bool.false_eq_true, List.cons_append, List.nil_append, Int.ofNat_lt, List.length_map, Int.natCast_nonneg]
  try simp only [Int.natCast_add, Int.add_assoc]
  try trivial
theorem hd_Model (m : Mo) (k : Int) (h0 : 0 ≤ k) (h1 : k + cntModel m ≤ maxK) : AF Try.prog 47 [eM (mrkModel m k), eI k] (.own (eI (k + cntModel m))) := by
  unfold cntModel at h1 ⊢
  unfold maxK at h1
  refine af_of_res res47 mixed rfl fun hbd => ?_
  simp +contextual -implicitDefEqProofs only [rc47, eM, eG, eS, mrkModel, eI, D.at, D.sub, D.put, D.cells, D.size, D.sizeL, D.isAg, go_sem, eB, ↓reduceIte, Nat.reduceEqDiff, Nat.reduceAdd, Nat.reduceLeDiff, Nat.reduceMul, Nat.reduceBEq, Nat.reduceBneDiff, Nat.reduceLT, Nat.reduceSub, Bool.false_eq_true, List.cons_append, List.nil_append, Int.ofNat_lt, List.length_map, Int.natCast_nonneg]
  refine callQ_self (ds := [eS 1 (eS 1 eB) (hfBoolSS.mrk m.2.2.1 k), eI k]) (by rfl) (hfBoolSS.afH m.2.2.1 k (by omega) (by unfold maxK; omega)) ?_
  have n0 : ¬ (k + hfBoolSS.cnt m.2.2.1 < 0) := by omega
  simp +contextual -implicitDefEqProofs only [n0, eM, eG, eS, mrkModel, eI, D.at, D.sub, D.put, D.cells, D.size, D.sizeL, D.isAg, go_sem, eB, ↓reduceIte, Nat.reduceEqDiff, Nat.reduceAdd, Nat.reduceLeDiff, Nat.reduceMul, Nat.reduceBEq, Nat.reduceBneDiff, Nat.reduceLT, Nat.reduceSub, Bool.false_eq_true, List.cons_append, List.nil_append, Int.ofNat_lt, List.length_map, Int.natCast_nonneg]
  refine callQ_self (ds := [eS 1 (eS 1 (eS 1 eB)) (hfBoolSSS.mrk m.2.2.2 (k + hfBoolSS.cnt m.2.2.1)), eI (k + hfBoolSS.cnt m.2.2.1)]) (by rfl) (hfBoolSSS.afH m.2.2.2 (k + hfBoolSS.cnt m.2.2.1) (by omega) (by unfold maxK; omega)) ?_
  have n1 : ¬ (k + hfBoolSS.cnt m.2.2.1 + hfBoolSSS.cnt m.2.2.2 < 0) := by omega
  simp +contextual -implicitDefEqProofs only [n1, eM, eG, eS, mrkModel, eI, D.at, D.sub, D.put, D.cells, D.size, D.sizeL, D.isAg, go_sem, eB, ↓reduceIte, Nat.reduceEqDiff, Nat.reduceAdd, Nat.reduceLeDiff, Nat.reduceMul, Nat.reduceBEq, Nat.reduceBneDiff, Nat.reduceLT, Nat.reduceSub, Bool.false_eq_true, List.cons_append, List.nil_append, Int.ofNat_lt, List.length_map, Int.natCast_nonneg]
  try exact D.Le.sc_eq (by simp only [Int.natCast_add, Int.add_assoc])
noncomputable def hfModel : HFam Try.prog eM szModel tModel 25 47 where
  mrk := mrkModel
  cnt := cntModel
  cnt_s m l h1 h2 h := by
    unfold szModel at h ⊢
    unfold cntModel
    obtain ⟨p0, h⟩ := nx_fit h
    rw [nx_pos (by omega)]
    have b0 := famBoolSS.s_in m.2.2.1 l (by omega) (by omega)
    have c0 := hfBoolSS.cnt_s m.2.2.1 l (by omega) (by omega) p0
    obtain ⟨p1, h⟩ := nx_fit h
    rw [nx_pos (by omega)]
    have b1 := famBoolSSS.s_in m.2.2.2 (famBoolSS.s m.2.2.1 l) (by omega) (by omega)
    have c1 := hfBoolSSS.cnt_s m.2.2.2 (famBoolSS.s m.2.2.1 l) (by omega) (by omega) p1
    push_cast
    omega
  cnt_t m := by unfold cntModel tModel; simp only [hfBoolSS.cnt_t, hfBoolSSS.cnt_t]
  afM := mk_Model
  afH := hd_Model

theorem rw_le {T : List (SL Bool)} {n k : Nat} (h : ∀ r ∈ T, r.2.length = n) : (rw_ T k).length ≤ n := by
  by_cases hk : k < T.length
  · exact Nat.le_of_eq (h _ (getD_mem (d := (none, [])) hk))
  · show (T.getD k (none, [])).2.length ≤ n
    rw [List.getD_eq_getElem?_getD, List.getElem?_eq_none (by omega)]
    exact Nat.zero_le _
theorem join_cnt (a b : Mo) : hfModel.cnt (joinS a b).1 ≤ 2000000000 := by
  unfold joinS
  split
  · exact Nat.zero_le _
  split
  · exact Nat.zero_le _
  split
  · exact Nat.zero_le _
  split
  · exact Nat.zero_le _
  · next ha hb _ _ =>
    obtain ⟨n1, hA⟩ := okMo_ok (by simpa using ha)
    obtain ⟨n2, hB⟩ := okMo_ok (by simpa using hb)
    have a8 := hA.n8
    have b8 := hB.n8
    have tl := hA.tl
    have al := hA.al
    have hG := hA.g
    simp only [okG, Bool.and_eq_true, isIn_iff'] at hG
    have e1 : a.2.1.toNat = n1 := by rw [hA.pts]; rfl
    have e2 : b.2.1.toNat = n2 := by rw [hB.pts]; rfl
    rw [e1, e2]
    have r1 : cntL (fun x : SL Bool => x.2.length) (tabL a.2.2.1.2.length fun k => ((some false, rw_ a.2.2.1.2 k ++ rw_ b.2.2.1.2 k) : SL Bool)) ≤ _ := cntL_bd (c := 16) (fun x hx => by
      obtain ⟨k, _, rfl⟩ := List.mem_map.1 hx
      have h1 := rw_le (k := k) hA.tr
      have h2 := rw_le (k := k) hB.tr
      simp only [List.length_append]
      omega)
    have r2 : cntL (fun x : SL (SL Bool) => cntL (fun x : SL Bool => x.2.length) x.2) (tabL a.2.2.2.2.length fun k => rTab (n1 + n2) (joinR n1 (tb_ a.2.2.2.2 k) (tb_ b.2.2.2.2 k))) ≤ _ := cntL_bd (c := 256) (fun x hx => by
      obtain ⟨k, _, rfl⟩ := List.mem_map.1 hx
      have sq : Sq (n1 + n2) (rTab (n1 + n2) (joinR n1 (tb_ a.2.2.2.2 k) (tb_ b.2.2.2.2 k))) := rTab_sq
      have := cntL_bd (cnt := fun x : SL Bool => x.2.length) (l := (rTab (n1 + n2) (joinR n1 (tb_ a.2.2.2.2 k) (tb_ b.2.2.2.2 k))).2) (c := 16) (fun x hx => by have := sq.row x hx; omega)
      have hl := sq.len
      omega)
    simp only [tabL_len] at r1 r2
    show cntL (fun x : SL Bool => x.2.length) (tabL a.2.2.1.2.length fun k => ((some false, rw_ a.2.2.1.2 k ++ rw_ b.2.2.1.2 k) : SL Bool)) + cntL (fun x : SL (SL Bool) => cntL (fun x : SL Bool => x.2.length) x.2) (tabL a.2.2.2.2.length fun k => rTab (n1 + n2) (joinR n1 (tb_ a.2.2.2.2 k) (tb_ b.2.2.2.2 k))) ≤ _
    omega
theorem law (a b : Mo) : AF Try.prog 7 [eM a, eM b] (.own (eB true)) := by
  refine af_of_res res7 mixed rfl fun hbd => ?_
  simp +contextual -implicitDefEqProofs only [rc7, eM, eG, eS, eI, eB, famModel_t, tModel, famBoolSS_t, famBoolSSS_t, bne_self_eq_false, go_sem, ↓reduceIte, Nat.reduceEqDiff, Nat.reduceAdd, Nat.reduceLeDiff, Nat.reduceMul, Nat.reduceBEq, Nat.reduceBneDiff, Nat.reduceLT, Nat.reduceSub, Bool.false_eq_true, List.cons_append, List.nil_append]
  refine callQ_self (ds := [eM a, eI 1048576]) ?_ (famModel.afS a 1048576 (by omega) (by omega)) ?_
  · simp only [eM, eG, eS, eI, eB, famModel_t, tModel, famBoolSS_t, famBoolSSS_t, bne_self_eq_false]; exact rfl
  simp +contextual -implicitDefEqProofs only [eM, eG, eS, eI, eB, famModel_t, tModel, famBoolSS_t, famBoolSSS_t, bne_self_eq_false, go_sem, ↓reduceIte, Nat.reduceEqDiff, Nat.reduceAdd, Nat.reduceLeDiff, Nat.reduceMul, Nat.reduceBEq, Nat.reduceBneDiff, Nat.reduceLT, Nat.reduceSub, Bool.false_eq_true, List.cons_append, List.nil_append]
  have sb0 := famModel.s_in a 1048576 (by omega) (by omega)
  refine fun hs0 => ?_
  have hf0 := famModel.s_fit a 1048576 (by omega) (by omega) (by omega)
  refine callQ_self (ds := [eM b, eI (famModel.s a 1048576)]) ?_ (famModel.afS b (famModel.s a 1048576) (by omega) (by omega)) ?_
  · simp only [eM, eG, eS, eI, eB, famModel_t, tModel, famBoolSS_t, famBoolSSS_t, bne_self_eq_false]; exact rfl
  simp +contextual -implicitDefEqProofs only [eM, eG, eS, eI, eB, famModel_t, tModel, famBoolSS_t, famBoolSSS_t, bne_self_eq_false, go_sem, ↓reduceIte, Nat.reduceEqDiff, Nat.reduceAdd, Nat.reduceLeDiff, Nat.reduceMul, Nat.reduceBEq, Nat.reduceBneDiff, Nat.reduceLT, Nat.reduceSub, Bool.false_eq_true, List.cons_append, List.nil_append]
  have sb1 := famModel.s_in b (famModel.s a 1048576) (by omega) (by omega)
  refine fun hs1 => ?_
  have hf1 := famModel.s_fit b (famModel.s a 1048576) (by omega) (by omega) (by omega)
  refine callQ_self (ds := [eM a]) ?_ (famModel.afT a hf0) ?_
  · simp only [eM, eG, eS, eI, eB, famModel_t, tModel, famBoolSS_t, famBoolSSS_t, bne_self_eq_false]; exact rfl
  simp +contextual -implicitDefEqProofs only [eM, eG, eS, eI, eB, famModel_t, tModel, famBoolSS_t, famBoolSSS_t, bne_self_eq_false, go_sem, ↓reduceIte, Nat.reduceEqDiff, Nat.reduceAdd, Nat.reduceLeDiff, Nat.reduceMul, Nat.reduceBEq, Nat.reduceBneDiff, Nat.reduceLT, Nat.reduceSub, Bool.false_eq_true, List.cons_append, List.nil_append]
  refine callQ_self (ds := [eM b]) ?_ (famModel.afT b hf1) ?_
  · simp only [eM, eG, eS, eI, eB, famModel_t, tModel, famBoolSS_t, famBoolSSS_t, bne_self_eq_false]; exact rfl
  simp +contextual -implicitDefEqProofs only [eM, eG, eS, eI, eB, famModel_t, tModel, famBoolSS_t, famBoolSSS_t, bne_self_eq_false, go_sem, ↓reduceIte, Nat.reduceEqDiff, Nat.reduceAdd, Nat.reduceLeDiff, Nat.reduceMul, Nat.reduceBEq, Nat.reduceBneDiff, Nat.reduceLT, Nat.reduceSub, Bool.false_eq_true, List.cons_append, List.nil_append]
  have hsp := af45 (famModel.t a) (famModel.t b)
  have him := af46 (famModel.t a) (famModel.t b)
  have hqM := fun x => famModel.afQ x x
  simp only [famModel.q_refl] at hqM
  have hca : (hfModel.cnt (famModel.t a) : Int) ≤ 8388608 := by
    have h := hfModel.cnt_s a 1048576 (by omega) (by omega) (Int.not_lt.1 hs0)
    have e : hfModel.cnt (famModel.t a) = hfModel.cnt a := hfModel.cnt_t a
    have h' : 0 ≤ szModel a 1048576 := Int.not_lt.1 hs0
    rw [e]; omega
  have hcb : (hfModel.cnt (famModel.t b) : Int) ≤ 8388608 := by
    have h := hfModel.cnt_s b (famModel.s a 1048576) (Int.not_lt.1 hs0) (by omega) (Int.not_lt.1 hs1)
    have e : hfModel.cnt (famModel.t b) = hfModel.cnt b := hfModel.cnt_t b
    have h' : 0 ≤ szModel b (famModel.s a 1048576) := Int.not_lt.1 hs1
    rw [e]; omega
  have hc1 := join_cnt (famModel.t a) (famModel.t b)
  generalize joinS (famModel.t a) (famModel.t b) = r at hsp him hc1
  obtain ⟨r, k⟩ := r
  simp only at hsp him hc1
  have hMa := hfModel.afM (famModel.t a) 1 (by omega) (by unfold maxK; omega)
  have hMb := hfModel.afM (famModel.t b) (1 + hfModel.cnt (famModel.t a)) (by omega) (by unfold maxK; omega)
  generalize hfModel.mrk (famModel.t a) 1 = mA at hMa
  generalize hfModel.cnt (famModel.t a) = cA at hMa hMb hca
  generalize hfModel.mrk (famModel.t b) (1 + cA) = mB at hMb
  generalize hfModel.cnt (famModel.t b) = cB at hMb hcb
  have hM1 := hfModel.afM r 1 (by omega) (by unfold maxK; omega)
  have hH1 := hfModel.afH r 1 (by omega) (by unfold maxK; omega)
  generalize hfModel.cnt r = cR at hM1 hH1 hc1
  generalize hfModel.mrk r 1 = mR at hM1 hH1
  have hk0 : ¬ (1 + (cA : Int) + (cB : Int) < 0) := by omega
  have hk1 : ¬ (1 + (cR : Int) < 0) := by omega
  refine callQ_self (ds := [eM (famModel.t a), eM (famModel.t b)]) ?_ (hsp) ?_
  · simp only [eM, eG, eS, eI, eB, famModel_t, tModel, famBoolSS_t, famBoolSSS_t, bne_self_eq_false]; exact rfl
  simp +contextual -implicitDefEqProofs only [eM, eG, eS, eI, eB, famModel_t, tModel, famBoolSS_t, famBoolSSS_t, bne_self_eq_false, go_sem, ↓reduceIte, Nat.reduceEqDiff, Nat.reduceAdd, Nat.reduceLeDiff, Nat.reduceMul, Nat.reduceBEq, Nat.reduceBneDiff, Nat.reduceLT, Nat.reduceSub, Bool.false_eq_true, List.cons_append, List.nil_append]
  refine callQ_self (ds := [eM a]) ?_ (famModel.afT a hf0) ?_
  · simp only [eM, eG, eS, eI, eB, famModel_t, tModel, famBoolSS_t, famBoolSSS_t, bne_self_eq_false]; exact rfl
  simp +contextual -implicitDefEqProofs only [eM, eG, eS, eI, eB, famModel_t, tModel, famBoolSS_t, famBoolSSS_t, bne_self_eq_false, go_sem, ↓reduceIte, Nat.reduceEqDiff, Nat.reduceAdd, Nat.reduceLeDiff, Nat.reduceMul, Nat.reduceBEq, Nat.reduceBneDiff, Nat.reduceLT, Nat.reduceSub, Bool.false_eq_true, List.cons_append, List.nil_append]
  refine callQ_self (ds := [eM b]) ?_ (famModel.afT b hf1) ?_
  · simp only [eM, eG, eS, eI, eB, famModel_t, tModel, famBoolSS_t, famBoolSSS_t, bne_self_eq_false]; exact rfl
  simp +contextual -implicitDefEqProofs only [eM, eG, eS, eI, eB, famModel_t, tModel, famBoolSS_t, famBoolSSS_t, bne_self_eq_false, go_sem, ↓reduceIte, Nat.reduceEqDiff, Nat.reduceAdd, Nat.reduceLeDiff, Nat.reduceMul, Nat.reduceBEq, Nat.reduceBneDiff, Nat.reduceLT, Nat.reduceSub, Bool.false_eq_true, List.cons_append, List.nil_append]
  refine callQ_self (ds := [eM (famModel.t a), eM (famModel.t b)]) ?_ (him) ?_
  · simp only [eM, eG, eS, eI, eB, famModel_t, tModel, famBoolSS_t, famBoolSSS_t, bne_self_eq_false]; exact rfl
  simp +contextual -implicitDefEqProofs only [eM, eG, eS, eI, eB, famModel_t, tModel, famBoolSS_t, famBoolSSS_t, bne_self_eq_false, go_sem, ↓reduceIte, Nat.reduceEqDiff, Nat.reduceAdd, Nat.reduceLeDiff, Nat.reduceMul, Nat.reduceBEq, Nat.reduceBneDiff, Nat.reduceLT, Nat.reduceSub, Bool.false_eq_true, List.cons_append, List.nil_append]
  refine callQ_self (ds := [eM r, eM r]) ?_ (hqM r) ?_
  · simp only [eM, eG, eS, eI, eB, famModel_t, tModel, famBoolSS_t, famBoolSSS_t, bne_self_eq_false]; exact rfl
  simp +contextual -implicitDefEqProofs only [Bool.not_true, eM, eG, eS, eI, eB, famModel_t, tModel, famBoolSS_t, famBoolSSS_t, bne_self_eq_false, go_sem, ↓reduceIte, Nat.reduceEqDiff, Nat.reduceAdd, Nat.reduceLeDiff, Nat.reduceMul, Nat.reduceBEq, Nat.reduceBneDiff, Nat.reduceLT, Nat.reduceSub, Bool.false_eq_true, List.cons_append, List.nil_append]
  refine callQ_self (ds := [eM a]) ?_ (famModel.afT a hf0) ?_
  · simp only [eM, eG, eS, eI, eB, famModel_t, tModel, famBoolSS_t, famBoolSSS_t, bne_self_eq_false]; exact rfl
  simp +contextual -implicitDefEqProofs only [eM, eG, eS, eI, eB, famModel_t, tModel, famBoolSS_t, famBoolSSS_t, bne_self_eq_false, go_sem, ↓reduceIte, Nat.reduceEqDiff, Nat.reduceAdd, Nat.reduceLeDiff, Nat.reduceMul, Nat.reduceBEq, Nat.reduceBneDiff, Nat.reduceLT, Nat.reduceSub, Bool.false_eq_true, List.cons_append, List.nil_append]
  refine callQ_self (ds := [eM (famModel.t a), eM (famModel.t a)]) ?_ (hqM (famModel.t a)) ?_
  · simp only [eM, eG, eS, eI, eB, famModel_t, tModel, famBoolSS_t, famBoolSSS_t, bne_self_eq_false]; exact rfl
  simp +contextual -implicitDefEqProofs only [Bool.not_true, eM, eG, eS, eI, eB, famModel_t, tModel, famBoolSS_t, famBoolSSS_t, bne_self_eq_false, go_sem, ↓reduceIte, Nat.reduceEqDiff, Nat.reduceAdd, Nat.reduceLeDiff, Nat.reduceMul, Nat.reduceBEq, Nat.reduceBneDiff, Nat.reduceLT, Nat.reduceSub, Bool.false_eq_true, List.cons_append, List.nil_append]
  refine callQ_self (ds := [eM b]) ?_ (famModel.afT b hf1) ?_
  · simp only [eM, eG, eS, eI, eB, famModel_t, tModel, famBoolSS_t, famBoolSSS_t, bne_self_eq_false]; exact rfl
  simp +contextual -implicitDefEqProofs only [eM, eG, eS, eI, eB, famModel_t, tModel, famBoolSS_t, famBoolSSS_t, bne_self_eq_false, go_sem, ↓reduceIte, Nat.reduceEqDiff, Nat.reduceAdd, Nat.reduceLeDiff, Nat.reduceMul, Nat.reduceBEq, Nat.reduceBneDiff, Nat.reduceLT, Nat.reduceSub, Bool.false_eq_true, List.cons_append, List.nil_append]
  refine callQ_self (ds := [eM (famModel.t b), eM (famModel.t b)]) ?_ (hqM (famModel.t b)) ?_
  · simp only [eM, eG, eS, eI, eB, famModel_t, tModel, famBoolSS_t, famBoolSSS_t, bne_self_eq_false]; exact rfl
  simp +contextual -implicitDefEqProofs only [Bool.not_true, eM, eG, eS, eI, eB, famModel_t, tModel, famBoolSS_t, famBoolSSS_t, bne_self_eq_false, go_sem, ↓reduceIte, Nat.reduceEqDiff, Nat.reduceAdd, Nat.reduceLeDiff, Nat.reduceMul, Nat.reduceBEq, Nat.reduceBneDiff, Nat.reduceLT, Nat.reduceSub, Bool.false_eq_true, List.cons_append, List.nil_append]
  refine ⟨eM mA, 1 + cA, hMa, ⟨rfl, fun _ => rfl, rfl⟩, ?_⟩
  simp +contextual -implicitDefEqProofs only [D.put, D.cells, D.size, D.sizeL, D.isAg, D.at, D.sub, eM, eG, eS, eI, eB, famModel_t, tModel, famBoolSS_t, famBoolSSS_t, bne_self_eq_false, go_sem, ↓reduceIte, Nat.reduceEqDiff, Nat.reduceAdd, Nat.reduceLeDiff, Nat.reduceMul, Nat.reduceBEq, Nat.reduceBneDiff, Nat.reduceLT, Nat.reduceSub, Bool.false_eq_true, List.cons_append, List.nil_append]
  refine ⟨eM mB, 1 + cA + cB, hMb, ⟨rfl, fun _ => rfl, rfl⟩, ?_⟩
  simp +contextual -implicitDefEqProofs only [hk0, D.put, D.cells, D.size, D.sizeL, D.isAg, D.at, D.sub, eM, eG, eS, eI, eB, famModel_t, tModel, famBoolSS_t, famBoolSSS_t, bne_self_eq_false, go_sem, ↓reduceIte, Nat.reduceEqDiff, Nat.reduceAdd, Nat.reduceLeDiff, Nat.reduceMul, Nat.reduceBEq, Nat.reduceBneDiff, Nat.reduceLT, Nat.reduceSub, Bool.false_eq_true, List.cons_append, List.nil_append]
  refine callQ_self (ds := [eM r, eM r]) ?_ (hqM r) ?_
  · simp only [eM, eG, eS, eI, eB, famModel_t, tModel, famBoolSS_t, famBoolSSS_t, bne_self_eq_false]; exact rfl
  simp +contextual -implicitDefEqProofs only [Bool.not_true, eM, eG, eS, eI, eB, famModel_t, tModel, famBoolSS_t, famBoolSSS_t, bne_self_eq_false, go_sem, ↓reduceIte, Nat.reduceEqDiff, Nat.reduceAdd, Nat.reduceLeDiff, Nat.reduceMul, Nat.reduceBEq, Nat.reduceBneDiff, Nat.reduceLT, Nat.reduceSub, Bool.false_eq_true, List.cons_append, List.nil_append]
  refine ⟨eM mR, 1 + cR, hM1, ⟨rfl, fun _ => rfl, rfl⟩, ?_⟩
  simp +contextual -implicitDefEqProofs only [D.put, D.cells, D.size, D.sizeL, D.isAg, D.at, D.sub, eM, eG, eS, eI, eB, famModel_t, tModel, famBoolSS_t, famBoolSSS_t, bne_self_eq_false, go_sem, ↓reduceIte, Nat.reduceEqDiff, Nat.reduceAdd, Nat.reduceLeDiff, Nat.reduceMul, Nat.reduceBEq, Nat.reduceBneDiff, Nat.reduceLT, Nat.reduceSub, Bool.false_eq_true, List.cons_append, List.nil_append]
  refine callQ_self (ds := [eM mR, eI 1]) ?_ (hH1) ?_
  · simp only [eM, eG, eS, eI, eB, famModel_t, tModel, famBoolSS_t, famBoolSSS_t, bne_self_eq_false]; exact rfl
  simp +contextual -implicitDefEqProofs only [hk1, eM, eG, eS, eI, eB, famModel_t, tModel, famBoolSS_t, famBoolSSS_t, bne_self_eq_false, go_sem, ↓reduceIte, Nat.reduceEqDiff, Nat.reduceAdd, Nat.reduceLeDiff, Nat.reduceMul, Nat.reduceBEq, Nat.reduceBneDiff, Nat.reduceLT, Nat.reduceSub, Bool.false_eq_true, List.cons_append, List.nil_append]
  refine callQ_self (ds := [eM a]) ?_ (famModel.afT a hf0) ?_
  · simp only [eM, eG, eS, eI, eB, famModel_t, tModel, famBoolSS_t, famBoolSSS_t, bne_self_eq_false]; exact rfl
  simp +contextual -implicitDefEqProofs only [eM, eG, eS, eI, eB, famModel_t, tModel, famBoolSS_t, famBoolSSS_t, bne_self_eq_false, go_sem, ↓reduceIte, Nat.reduceEqDiff, Nat.reduceAdd, Nat.reduceLeDiff, Nat.reduceMul, Nat.reduceBEq, Nat.reduceBneDiff, Nat.reduceLT, Nat.reduceSub, Bool.false_eq_true, List.cons_append, List.nil_append]
  refine callQ_self (ds := [eM b]) ?_ (famModel.afT b hf1) ?_
  · simp only [eM, eG, eS, eI, eB, famModel_t, tModel, famBoolSS_t, famBoolSSS_t, bne_self_eq_false]; exact rfl
  simp +contextual -implicitDefEqProofs only [eM, eG, eS, eI, eB, famModel_t, tModel, famBoolSS_t, famBoolSSS_t, bne_self_eq_false, go_sem, ↓reduceIte, Nat.reduceEqDiff, Nat.reduceAdd, Nat.reduceLeDiff, Nat.reduceMul, Nat.reduceBEq, Nat.reduceBneDiff, Nat.reduceLT, Nat.reduceSub, Bool.false_eq_true, List.cons_append, List.nil_append]
  refine callQ_self (ds := [eM (famModel.t a), eM (famModel.t b)]) ?_ (him) ?_
  · simp only [eM, eG, eS, eI, eB, famModel_t, tModel, famBoolSS_t, famBoolSSS_t, bne_self_eq_false]; exact rfl
  simp +contextual -implicitDefEqProofs only [eM, eG, eS, eI, eB, famModel_t, tModel, famBoolSS_t, famBoolSSS_t, bne_self_eq_false, go_sem, ↓reduceIte, Nat.reduceEqDiff, Nat.reduceAdd, Nat.reduceLeDiff, Nat.reduceMul, Nat.reduceBEq, Nat.reduceBneDiff, Nat.reduceLT, Nat.reduceSub, Bool.false_eq_true, List.cons_append, List.nil_append]
  refine callQ_self (ds := [eM r, eM r]) ?_ (hqM r) ?_
  · simp only [eM, eG, eS, eI, eB, famModel_t, tModel, famBoolSS_t, famBoolSSS_t, bne_self_eq_false]; exact rfl
  simp +contextual -implicitDefEqProofs only [Bool.not_true, eM, eG, eS, eI, eB, famModel_t, tModel, famBoolSS_t, famBoolSSS_t, bne_self_eq_false, go_sem, ↓reduceIte, Nat.reduceEqDiff, Nat.reduceAdd, Nat.reduceLeDiff, Nat.reduceMul, Nat.reduceBEq, Nat.reduceBneDiff, Nat.reduceLT, Nat.reduceSub, Bool.false_eq_true, List.cons_append, List.nil_append]
  refine callQ_self (ds := [eM mR, eI 1]) ?_ (hH1) ?_
  · simp only [eM, eG, eS, eI, eB, famModel_t, tModel, famBoolSS_t, famBoolSSS_t, bne_self_eq_false]; exact rfl
  simp +contextual -implicitDefEqProofs only [hk1, eM, eG, eS, eI, eB, famModel_t, tModel, famBoolSS_t, famBoolSSS_t, bne_self_eq_false, go_sem, ↓reduceIte, Nat.reduceEqDiff, Nat.reduceAdd, Nat.reduceLeDiff, Nat.reduceMul, Nat.reduceBEq, Nat.reduceBneDiff, Nat.reduceLT, Nat.reduceSub, Bool.false_eq_true, List.cons_append, List.nil_append]
end Go.Ax
