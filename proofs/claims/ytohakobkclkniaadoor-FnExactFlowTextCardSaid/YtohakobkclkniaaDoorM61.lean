/- Contracts of functions of the seat, proved over the engine. No condition. -/
import Derived.Test.YtohakobkclkniaaDoorX85
import Derived.Test.YtohakobkclkniaaDoorX82
import Derived.Test.YtohakobkclkniaaDoorAxO
import Derived.Test.YtohakobkclkniaaDoorChecked
set_option linter.unusedSimpArgs false
set_option linter.unusedVariables false
set_option linter.unnecessarySimpa false
namespace Go.Ax
open Go.Proofs Go.Shelf
set_option linter.unusedSimpArgs false
theorem mixed : Tryd.prog.follows .mixedOrders = true := by kernel_rfl
theorem res84 : resF Tryd.prog 84 = some (27, cSzC 45 3 true, [.t 4]) := by kernel_rfl
theorem res45 : resF Tryd.prog 45 = some (12, k_szExpr 84, [.t 4]) := by kernel_rfl

def rc89 : RC := (.seq (.reg false [⟨none, .box 2 7 (.t 0)⟩, ⟨none, .mv 4 (.c (.sc (.int .i64 0)))⟩]) ((.seq (.reg false [⟨none, .fa 5 2 (.t 2)⟩, ⟨none, .ld 6 true 3 (.t 5)⟩, ⟨none, .mv 7 (.t 1)⟩, ⟨none, .call (some 8) 45 [(.t 6), (.t 7)]⟩, ⟨none, .mv 1 (.t 8)⟩]) ((.seq ((.seq (.reg false [⟨none, .mv 9 (.t 1)⟩, ⟨none, .bin 10 .lss (.t 9) (.c (.sc (.int .i64 0)))⟩]) (.cond (.t 10) ((.seq (.reg false [⟨none, .mv 4 (.c (.sc (.int .i64 (-1))))⟩]) (.ret))) (.skip)))) ((.seq (.reg false [⟨none, .mv 11 (.t 1)⟩, ⟨none, .mv 4 (.t 11)⟩]) (.ret))))))))
theorem res89 : resF Tryd.prog 89 = some (12, rc89, [.t 4]) := by kernel_rfl
theorem res52 : resF Tryd.prog 52 = some (27, cSzC 89 7 true, [.t 4]) := by kernel_rfl

def rc19 : RC := (.seq (.reg false [⟨none, .box 2 2 (.t 0)⟩, ⟨none, .mv 4 (.c (.sc (.int .i64 0)))⟩]) ((.seq (.reg false [⟨none, .fa 5 1 (.t 2)⟩, ⟨none, .ld 6 false 1 (.t 5)⟩, ⟨none, .mv 7 (.t 1)⟩, ⟨none, .call (some 8) 52 [(.t 6), (.t 7)]⟩, ⟨none, .mv 1 (.t 8)⟩]) ((.seq ((.seq (.reg false [⟨none, .mv 9 (.t 1)⟩, ⟨none, .bin 10 .lss (.t 9) (.c (.sc (.int .i64 0)))⟩]) (.cond (.t 10) ((.seq (.reg false [⟨none, .mv 4 (.c (.sc (.int .i64 (-1))))⟩]) (.ret))) (.skip)))) ((.seq (.reg false [⟨none, .mv 11 (.t 1)⟩, ⟨none, .mv 4 (.t 11)⟩]) (.ret))))))))
theorem res19 : resF Tryd.prog 19 = some (12, rc19, [.t 4]) := by kernel_rfl
theorem res15 : resF Tryd.prog 15 = some (11, k_toSig, [.c 2 2 true]) := by kernel_rfl
theorem af15 : K_toSig Tryd.prog 15 := a_toSig mixed res15
theorem res86 : resF Tryd.prog 86 = some (23, cToC 48 3 40 true (.ag [(.sc (.int .i64 0)), (.sc (.int .i64 0)), (.ls (some true) 3 [])]), [.t 2]) := by kernel_rfl
theorem res48 : resF Tryd.prog 48 = some (15, k_toExpr 86, [.c 2 3 true]) := by kernel_rfl

def rc93 : RC := (.seq (.reg false [⟨none, .box 1 7 (.t 0)⟩, ⟨none, .zer 2 7 (.ag [(.sc (.int .i64 0)), (.sc (.int .i64 0)), (.sc (.int .i64 0)), (.sc (.int .i64 0)), (.ls (some true) 3 []), (.sc (.int .i64 0)), (.sc (.int .i64 0))])⟩]) ((.seq (.reg false [⟨none, .zer 3 7 (.ag [(.sc (.int .i64 0)), (.sc (.int .i64 0)), (.sc (.int .i64 0)), (.sc (.int .i64 0)), (.ls (some true) 3 []), (.sc (.int .i64 0)), (.sc (.int .i64 0))])⟩]) ((.seq (.reg false [⟨none, .fa 4 0 (.t 1)⟩, ⟨none, .ld 5 false 1 (.t 4)⟩, ⟨none, .fa 6 0 (.t 3)⟩, ⟨none, .st 1 (.t 6) (.t 5)⟩]) ((.seq (.reg false [⟨none, .fa 7 1 (.t 1)⟩, ⟨none, .ld 8 false 1 (.t 7)⟩, ⟨none, .fa 9 1 (.t 3)⟩, ⟨none, .st 1 (.t 9) (.t 8)⟩]) ((.seq (.reg false [⟨none, .fa 10 2 (.t 1)⟩, ⟨none, .ld 11 true 3 (.t 10)⟩, ⟨none, .call (some 12) 48 [(.t 11)]⟩, ⟨none, .fa 13 2 (.t 3)⟩, ⟨none, .st 3 (.t 13) (.t 12)⟩]) ((.seq (.reg false [⟨none, .fa 14 5 (.t 1)⟩, ⟨none, .ld 15 false 1 (.t 14)⟩, ⟨none, .fa 16 5 (.t 3)⟩, ⟨none, .st 1 (.t 16) (.t 15)⟩]) ((.seq (.reg false [⟨none, .fa 17 6 (.t 1)⟩, ⟨none, .ld 18 false 1 (.t 17)⟩, ⟨none, .fa 19 6 (.t 3)⟩, ⟨none, .st 1 (.t 19) (.t 18)⟩]) ((.seq (.reg false [⟨none, .ld 20 true 7 (.t 3)⟩, ⟨none, .st 7 (.t 2) (.t 20)⟩]) (.ret))))))))))))))))
theorem res93 : resF Tryd.prog 93 = some (21, rc93, [.c 2 7 true]) := by kernel_rfl
theorem res56 : resF Tryd.prog 56 = some (23, cToC 93 7 72 true (.ag [(.sc (.int .i64 0)), (.sc (.int .i64 0)), (.sc (.int .i64 0)), (.sc (.int .i64 0)), (.ls (some true) 3 []), (.sc (.int .i64 0)), (.sc (.int .i64 0))]), [.t 2]) := by kernel_rfl

def rc21 : RC := (.seq (.reg false [⟨none, .box 1 2 (.t 0)⟩, ⟨none, .zer 2 2 (.ag [(.sc (.int .i64 0)), (.ls (some true) 7 [])])⟩]) ((.seq (.reg false [⟨none, .zer 3 2 (.ag [(.sc (.int .i64 0)), (.ls (some true) 7 [])])⟩]) ((.seq (.reg false [⟨none, .fa 4 0 (.t 1)⟩, ⟨none, .ld 5 false 1 (.t 4)⟩, ⟨none, .fa 6 0 (.t 3)⟩, ⟨none, .st 1 (.t 6) (.t 5)⟩]) ((.seq (.reg false [⟨none, .fa 7 1 (.t 1)⟩, ⟨none, .ld 8 false 1 (.t 7)⟩, ⟨none, .call (some 9) 56 [(.t 8)]⟩, ⟨none, .fa 10 1 (.t 3)⟩, ⟨none, .st 1 (.t 10) (.t 9)⟩]) ((.seq (.reg false [⟨none, .ld 11 true 2 (.t 3)⟩, ⟨none, .st 2 (.t 2) (.t 11)⟩]) (.ret))))))))))
theorem res21 : resF Tryd.prog 21 = some (12, rc21, [.c 2 2 true]) := by kernel_rfl
theorem res91 : resF Tryd.prog 91 = some (15, k_l00In, [.t 6]) := by kernel_rfl
theorem af91 : K_l00In Tryd.prog 91 := a_l00In mixed res91
theorem res90 : resF Tryd.prog 90 = some (11, k_l01Sig 91, [.t 2]) := by kernel_rfl
theorem af90 : K_l01Sig Tryd.prog 90 := a_l01Sig mixed res90 af91
theorem res117 : resF Tryd.prog 117 = some (23, k_l06None, [.t 2]) := by kernel_rfl
theorem af117 : K_l06None Tryd.prog 117 := a_l06None mixed res117
theorem res113 : resF Tryd.prog 113 = some (30, k_l01Left 113, [.t 4]) := by kernel_rfl
theorem af113 : K_l01Left Tryd.prog 113 := a_l01Left mixed res113
theorem res123 : resF Tryd.prog 123 = some (10, k_l00Max, [.t 4]) := by kernel_rfl
theorem af123 : K_l00Max Tryd.prog 123 := a_l00Max mixed res123
theorem res114 : resF Tryd.prog 114 = some (25, k_l01Depth 114 123, [.t 2]) := by kernel_rfl
theorem af114 : K_l01Depth Tryd.prog 114 := a_l01Depth mixed res114 af123
theorem res136 : resF Tryd.prog 136 = some (15, k_l01Kids, [.t 2]) := by kernel_rfl
theorem af136 : K_l01Kids Tryd.prog 136 := a_l01Kids mixed res136
theorem res137 : resF Tryd.prog 137 = some (34, k_l01Condition 137 91, [.t 2]) := by kernel_rfl
theorem af137 : K_l01Condition Tryd.prog 137 := a_l01Condition mixed res137 af91
theorem res115 : resF Tryd.prog 115 = some (80, k_l01Tree 115 136 91 137, [.t 4]) := by kernel_rfl
theorem af115 : K_l01Tree Tryd.prog 115 := a_l01Tree mixed res115 af136 af91 af137
theorem res85 : resF Tryd.prog 85 = some (22, k_l01Ok 90 113 114 115, [.t 4]) := by kernel_rfl
theorem af85 : K_l01Ok Tryd.prog 85 := a_l01Ok mixed res85 af90 af113 af114 af115
theorem res118 : resF Tryd.prog 118 = some (12, k_l06Cond 85 137, [.t 4]) := by kernel_rfl
theorem af118 : K_l06Cond Tryd.prog 118 := a_l06Cond mixed res118 af85 af137
theorem res92 : resF Tryd.prog 92 = some (105, k_l06Spot 117 91 118, [.t 6]) := by kernel_rfl
theorem af92 : K_l06Spot Tryd.prog 92 := a_l06Spot mixed res92 af117 af91 af118
theorem res53 : resF Tryd.prog 53 = some (49, k_l06Flow 90 91 92, [.t 4]) := by kernel_rfl
theorem af53 : K_l06Flow Tryd.prog 53 := a_l06Flow mixed res53 af90 af91 af92
theorem res54 : resF Tryd.prog 54 = some (20, k_spDecimal 54, [.t 2]) := by kernel_rfl
theorem af54 : K_spDecimal Tryd.prog 54 := a_spDecimal mixed res54
theorem res55 : resF Tryd.prog 55 = some (79, k_l01Text 55 54, [.t 2]) := by kernel_rfl
theorem af55 : K_l01Text Tryd.prog 55 := a_l01Text mixed res55 af54
theorem res20 : resF Tryd.prog 20 = some (69, k_spFlowText 53 54 55, [.t 4]) := by kernel_rfl
theorem af20 : K_spFlowText Tryd.prog 20 := a_spFlowText mixed res20 af53 af54 af55
theorem res95 : resF Tryd.prog 95 = some (15, k_within, [.t 6]) := by kernel_rfl
theorem af95 : K_within Tryd.prog 95 := a_within mixed res95
theorem res94 : resF Tryd.prog 94 = some (11, k_validSig 95, [.t 2]) := by kernel_rfl
theorem af94 : K_validSig Tryd.prog 94 := a_validSig mixed res94 af95
theorem res119 : resF Tryd.prog 119 = some (17, k_isNone, [.t 2]) := by kernel_rfl
theorem af119 : K_isNone Tryd.prog 119 := a_isNone mixed res119
theorem res152 : resF Tryd.prog 152 = some (15, k_kidsOf, [.t 2]) := by kernel_rfl
theorem af152 : K_kidsOf Tryd.prog 152 := a_kidsOf mixed res152
theorem res139 : resF Tryd.prog 139 = some (25, k_isCondition 139, [.t 2]) := by kernel_rfl
theorem af139 : K_isCondition Tryd.prog 139 := a_isCondition mixed res139
theorem res138 : resF Tryd.prog 138 = some (86, k_shaped 138 152 95 139, [.t 8, .t 9]) := by kernel_rfl
theorem af138 : K_shaped Tryd.prog 138 := a_shaped mixed res138 af152 af95 af139
theorem res116 : resF Tryd.prog 116 = some (14, k_isExpr 138, [.t 4]) := by kernel_rfl
theorem af116 : K_isExpr Tryd.prog 116 := a_isExpr mixed res116 af138
theorem res120 : resF Tryd.prog 120 = some (12, k_imCondOk 116 139, [.t 4]) := by kernel_rfl
theorem af120 : K_imCondOk Tryd.prog 120 := a_imCondOk mixed res120 af116 af139
theorem res96 : resF Tryd.prog 96 = some (80, k_isSpot 95 119 120, [.t 6]) := by kernel_rfl
theorem af96 : K_isSpot Tryd.prog 96 := a_isSpot mixed res96 af95 af119 af120
theorem res57 : resF Tryd.prog 57 = some (40, k_imValidFlow 94 95 96, [.t 4]) := by kernel_rfl
theorem af57 : K_imValidFlow Tryd.prog 57 := a_imValidFlow mixed res57 af94 af95 af96
theorem res140 : resF Tryd.prog 140 = some (15, k_small, [.t 2]) := by kernel_rfl
theorem af140 : K_small Tryd.prog 140 := a_small mixed res140
theorem res122 : resF Tryd.prog 122 = some (54, k_formatInt 140 141 142 143 (othF Tryd.prog 122 0) (othF Tryd.prog 122 1) (othF Tryd.prog 122 2) (othF Tryd.prog 122 3), [.t 4]) := by kernel_rfl
theorem af122 : K_formatInt Tryd.prog 122 := a_formatInt mixed res122 af140
theorem res98 : resF Tryd.prog 98 = some (8, k_formatIntS 122, [.t 4]) := by kernel_rfl
theorem af98 : K_formatIntS Tryd.prog 98 := a_formatIntS mixed res98 af122
theorem res59 : resF Tryd.prog 59 = some (5, k_imDecimal 98, [.t 2]) := by kernel_rfl
theorem af59 : K_imDecimal Tryd.prog 59 := a_imDecimal mixed res59 af98
def sbRen : Go.Shelf.Ren := ⟨fun | 166 => 58 | 240 => 97 | 276 => 121 | 169 => 61 | n => n, fun | 0 => 0 | 3 => 3 | 4 => 4 | 5 => 5 | 9 => 9 | 20 => 20 | 37 => 115 | 70 => 114 | 72 => 117 | 75 => 119 | 80 => 123 | 127 => 163 | 164 => 191 | n => n, fun | n => n⟩
theorem sbLay166 : Lays.n166 Tryd.prog sbRen := { mixed := by kernel_rfl, f166 := Tryd.func58.trans (congrArg some (by kernel_rfl)), f240 := Tryd.func97.trans (congrArg some (by kernel_rfl)), f276 := Tryd.func121.trans (congrArg some (by kernel_rfl)), t0 := Tryd.underlying0, a0 := Tryd.isAgg0, z0 := Tryd.sizeOf0, v0 := Tryd.zeroValue0, t3 := Tryd.underlying3, a3 := Tryd.isAgg3, z3 := Tryd.sizeOf3, v3 := Tryd.zeroValue3, t4 := Tryd.underlying4, a4 := Tryd.isAgg4, z4 := Tryd.sizeOf4, v4 := Tryd.zeroValue4, t9 := Tryd.underlying9, a9 := Tryd.isAgg9, z9 := Tryd.sizeOf9, v9 := Tryd.zeroValue9, t20 := Tryd.underlying20, a20 := Tryd.isAgg20, z20 := Tryd.sizeOf20, v20 := Tryd.zeroValue20, t37 := Tryd.underlying115, a37 := Tryd.isAgg115, z37 := Tryd.sizeOf115, v37 := Tryd.zeroValue115, t70 := Tryd.underlying114, a70 := Tryd.isAgg114, z70 := Tryd.sizeOf114, v70 := Tryd.zeroValue114, t72 := Tryd.underlying117, a72 := Tryd.isAgg117, z72 := Tryd.sizeOf117, v72 := Tryd.zeroValue117, t75 := Tryd.underlying119, a75 := Tryd.isAgg119, z75 := Tryd.sizeOf119, v75 := Tryd.zeroValue119, t164 := Tryd.underlying191, a164 := Tryd.isAgg191, z164 := Tryd.sizeOf191, v164 := Tryd.zeroValue191 }
theorem sbLay169 : Lays.n169 Tryd.prog sbRen := { mixed := by kernel_rfl, f169 := Tryd.func61.trans (congrArg some (by kernel_rfl)), t0 := Tryd.underlying0, a0 := Tryd.isAgg0, z0 := Tryd.sizeOf0, v0 := Tryd.zeroValue0, t3 := Tryd.underlying3, a3 := Tryd.isAgg3, z3 := Tryd.sizeOf3, v3 := Tryd.zeroValue3, t9 := Tryd.underlying9, a9 := Tryd.isAgg9, z9 := Tryd.sizeOf9, v9 := Tryd.zeroValue9, t37 := Tryd.underlying115, a37 := Tryd.isAgg115, z37 := Tryd.sizeOf115, v37 := Tryd.zeroValue115, t70 := Tryd.underlying114, a70 := Tryd.isAgg114, z70 := Tryd.sizeOf114, v70 := Tryd.zeroValue114, t72 := Tryd.underlying117, a72 := Tryd.isAgg117, z72 := Tryd.sizeOf117, v72 := Tryd.zeroValue117, t127 := Tryd.underlying163, a127 := Tryd.isAgg163, z127 := Tryd.sizeOf163, v127 := Tryd.zeroValue163 }
theorem sbX : Builder.Extra Tryd.prog sbRen := { sizeBuilder := by kernel_rfl, liesBuilder := by kernel_rfl, t5 := Tryd.underlying5, a5 := Tryd.isAgg5, z5 := Tryd.sizeOf5, v5 := Tryd.zeroValue5, infoByte := by kernel_rfl, cellsByte := by kernel_rfl, sizeByte := by kernel_rfl, neB5 := by decide }
theorem sbC58 : Callable Tryd.prog 58 := ⟨Tryd.f58, Tryd.func58, by kernel_rfl, by kernel_rfl⟩
theorem sbC61 : Callable Tryd.prog 61 := ⟨Tryd.f61, Tryd.func61, by kernel_rfl, by kernel_rfl⟩
theorem sbE1 : sbRen.f 166 = 58 := rfl
theorem sbE2 : sbRen.f 169 = 61 := rfl
theorem sbE3 : sbRen.t 72 = 117 := rfl
theorem sbE4 : sbRen.t 5 = 5 := rfl
theorem af58 : K_wrS Tryd.prog 58 := fun s hs => by
 have h := wrS_ok sbLay166 sbX (by rw [sbE1]; exact sbC58) s hs
 rw [sbE1, sbE3, sbE4] at h
 exact h
theorem res99 : resF Tryd.prog 99 = some (76, k_writeExpr 99 59 58, []) := by kernel_rfl
theorem af99 : K_writeExpr Tryd.prog 99 := a_writeExpr mixed res99 af59 af58
theorem af61 : K_bdS Tryd.prog 61 := by
 have h := bdS_ok sbLay169 sbX (by rw [sbE2]; exact sbC61)
 rw [sbE2, sbE3, sbE4] at h
 exact h
theorem res60 : resF Tryd.prog 60 = some (8, k_textOf 99 61, [.t 2]) := by kernel_rfl
theorem af60 : K_textOf Tryd.prog 60 := a_textOf mixed res60 af99 af61
theorem res22 : resF Tryd.prog 22 = some (65, k_imFlowText 57 59 60 58 61, [.t 4]) := by kernel_rfl
theorem af22 : K_imFlowText Tryd.prog 22 := a_imFlowText mixed res22 af57 af59 af60 af58 af61
theorem res88 : resF Tryd.prog 88 = some (27, cEqC 51 3 true, [.t 4]) := by kernel_rfl
theorem res51 : resF Tryd.prog 51 = some (21, k_eqExpr 88, [.t 4]) := by kernel_rfl

def rc100 : RC := (.seq (.reg false [⟨none, .box 2 7 (.t 0)⟩, ⟨none, .box 3 7 (.t 1)⟩, ⟨none, .mv 4 (.c (.sc (.bool false)))⟩]) ((.seq ((.seq (.reg false [⟨none, .fa 5 0 (.t 2)⟩, ⟨none, .ld 6 false 1 (.t 5)⟩, ⟨none, .fa 7 0 (.t 3)⟩, ⟨none, .ld 8 false 1 (.t 7)⟩, ⟨none, .bin 9 .neq (.t 6) (.t 8)⟩]) (.cond (.t 9) ((.seq (.reg false [⟨none, .mv 4 (.c (.sc (.bool false)))⟩]) (.ret))) (.skip)))) ((.seq ((.seq (.reg false [⟨none, .fa 10 1 (.t 2)⟩, ⟨none, .ld 11 false 1 (.t 10)⟩, ⟨none, .fa 12 1 (.t 3)⟩, ⟨none, .ld 13 false 1 (.t 12)⟩, ⟨none, .bin 14 .neq (.t 11) (.t 13)⟩]) (.cond (.t 14) ((.seq (.reg false [⟨none, .mv 4 (.c (.sc (.bool false)))⟩]) (.ret))) (.skip)))) ((.seq ((.seq (.reg false [⟨none, .fa 15 2 (.t 2)⟩, ⟨none, .ld 16 true 3 (.t 15)⟩, ⟨none, .fa 17 2 (.t 3)⟩, ⟨none, .ld 18 true 3 (.t 17)⟩, ⟨none, .call (some 19) 51 [(.t 16), (.t 18)]⟩, ⟨none, .un 20 .not (.t 19)⟩]) (.cond (.t 20) ((.seq (.reg false [⟨none, .mv 4 (.c (.sc (.bool false)))⟩]) (.ret))) (.skip)))) ((.seq ((.seq (.reg false [⟨none, .fa 21 5 (.t 2)⟩, ⟨none, .ld 22 false 1 (.t 21)⟩, ⟨none, .fa 23 5 (.t 3)⟩, ⟨none, .ld 24 false 1 (.t 23)⟩, ⟨none, .bin 25 .neq (.t 22) (.t 24)⟩]) (.cond (.t 25) ((.seq (.reg false [⟨none, .mv 4 (.c (.sc (.bool false)))⟩]) (.ret))) (.skip)))) ((.seq ((.seq (.reg false [⟨none, .fa 26 6 (.t 2)⟩, ⟨none, .ld 27 false 1 (.t 26)⟩, ⟨none, .fa 28 6 (.t 3)⟩, ⟨none, .ld 29 false 1 (.t 28)⟩, ⟨none, .bin 30 .neq (.t 27) (.t 29)⟩]) (.cond (.t 30) ((.seq (.reg false [⟨none, .mv 4 (.c (.sc (.bool false)))⟩]) (.ret))) (.skip)))) ((.seq (.reg false [⟨none, .mv 4 (.c (.sc (.bool true)))⟩]) (.ret))))))))))))))
theorem res100 : resF Tryd.prog 100 = some (31, rc100, [.t 4]) := by kernel_rfl
theorem res62 : resF Tryd.prog 62 = some (27, cEqC 100 7 true, [.t 4]) := by kernel_rfl

def rc23 : RC := (.seq (.reg false [⟨none, .box 2 2 (.t 0)⟩, ⟨none, .box 3 2 (.t 1)⟩, ⟨none, .mv 4 (.c (.sc (.bool false)))⟩]) ((.seq ((.seq (.reg false [⟨none, .fa 5 0 (.t 2)⟩, ⟨none, .ld 6 false 1 (.t 5)⟩, ⟨none, .fa 7 0 (.t 3)⟩, ⟨none, .ld 8 false 1 (.t 7)⟩, ⟨none, .bin 9 .neq (.t 6) (.t 8)⟩]) (.cond (.t 9) ((.seq (.reg false [⟨none, .mv 4 (.c (.sc (.bool false)))⟩]) (.ret))) (.skip)))) ((.seq ((.seq (.reg false [⟨none, .fa 10 1 (.t 2)⟩, ⟨none, .ld 11 false 1 (.t 10)⟩, ⟨none, .fa 12 1 (.t 3)⟩, ⟨none, .ld 13 false 1 (.t 12)⟩, ⟨none, .call (some 14) 62 [(.t 11), (.t 13)]⟩, ⟨none, .un 15 .not (.t 14)⟩]) (.cond (.t 15) ((.seq (.reg false [⟨none, .mv 4 (.c (.sc (.bool false)))⟩]) (.ret))) (.skip)))) ((.seq (.reg false [⟨none, .mv 4 (.c (.sc (.bool true)))⟩]) (.ret))))))))
theorem res23 : resF Tryd.prog 23 = some (16, rc23, [.t 4]) := by kernel_rfl

def rc5 : RC := (.seq (.reg false [⟨none, .box 2 2 (.t 0)⟩, ⟨none, .box 3 2 (.t 1)⟩, ⟨none, .mv 4 (.c (.sc (.bool false)))⟩]) ((.seq (.reg false [⟨none, .mv 5 (.c (.sc (.int .i64 1048576)))⟩]) ((.seq (.reg false [⟨none, .ld 9 true 2 (.t 3)⟩, ⟨none, .mv 10 (.t 5)⟩, ⟨none, .call (some 11) 19 [(.t 9), (.t 10)]⟩, ⟨none, .mv 5 (.t 11)⟩]) ((.seq ((.seq (.reg false [⟨none, .mv 12 (.t 5)⟩, ⟨none, .bin 13 .lss (.t 12) (.c (.sc (.int .i64 0)))⟩]) (.cond (.t 13) ((.seq (.reg false [⟨none, .mv 4 (.c (.sc (.bool true)))⟩]) (.ret))) (.skip)))) ((.seq (.reg true [⟨none, .ld 14 true 2 (.t 2)⟩, ⟨none, .call (some 15) 15 [(.t 14)]⟩, ⟨none, .ld 16 true 2 (.t 3)⟩, ⟨none, .call (some 17) 21 [(.t 16)]⟩, ⟨none, .call (some 18) 20 [(.t 15), (.t 17)]⟩, ⟨none, .mv 6 (.t 18)⟩]) ((.seq (.reg false [⟨none, .ld 19 true 2 (.t 3)⟩, ⟨none, .call (some 20) 21 [(.t 19)]⟩, ⟨none, .zer 7 2 (.ag [(.sc (.int .i64 0)), (.ls (some true) 7 [])])⟩, ⟨none, .st 2 (.t 7) (.t 20)⟩]) ((.seq (.reg true [⟨none, .ld 21 true 2 (.t 2)⟩, ⟨none, .call (some 22) 15 [(.t 21)]⟩, ⟨none, .ld 23 true 2 (.t 7)⟩, ⟨none, .call (some 24) 22 [(.t 22), (.t 23)]⟩, ⟨none, .mv 8 (.t 24)⟩]) ((.seq ((.seq (.reg false [⟨none, .mv 25 (.t 8)⟩, ⟨none, .mv 26 (.t 6)⟩, ⟨none, .bin 27 .neq (.t 25) (.t 26)⟩]) (.cond (.t 27) ((.seq (.reg false [⟨none, .mv 4 (.c (.sc (.bool false)))⟩]) (.ret))) (.skip)))) ((.seq ((.seq (.reg true [⟨none, .ld 28 true 2 (.t 7)⟩, ⟨none, .ld 29 true 2 (.t 3)⟩, ⟨none, .call (some 30) 21 [(.t 29)]⟩, ⟨none, .call (some 31) 23 [(.t 28), (.t 30)]⟩, ⟨none, .un 32 .not (.t 31)⟩]) (.cond (.t 32) ((.seq (.reg false [⟨none, .mv 4 (.c (.sc (.bool false)))⟩]) (.ret))) (.skip)))) ((.seq (.reg false [⟨none, .mv 4 (.c (.sc (.bool true)))⟩]) (.ret))))))))))))))))))))
theorem res5 : resF Tryd.prog 5 = some (33, rc5, [.t 4]) := by kernel_rfl
noncomputable def famExpr : Fam Tryd.prog eE 45 48 51 := famE mixed res45 res84 res48 res86 res51 res88
theorem famExpr_t (x) : famExpr.t x = tE x := rfl
noncomputable def szSpot (m : Sp) : Int → Int := fun l => nx (famExpr.s m.2.2.1 l) (fun l => l)
def fitSpot (m : Sp) : Prop := famExpr.fit m.2.2.1
noncomputable def tSpot (m : Sp) : Sp := (m.1, m.2.1, famExpr.t m.2.2.1, m.2.2.2.1, m.2.2.2.2)
noncomputable def qSpot (a b : Sp) : Bool := ((a.1 == b.1) && ((a.2.1 == b.2.1) && (famExpr.q a.2.2.1 b.2.2.1 && ((a.2.2.2.1 == b.2.2.2.1) && (a.2.2.2.2 == b.2.2.2.2)))))
theorem szSpot_in (m : Sp) (l : Int) (h1 : 0 ≤ l) (h2 : l ≤ 1048576) : -1 ≤ szSpot m l ∧ szSpot m l ≤ l := by
 refine in_tr (Int.le_refl l) (nx_in (famExpr.s_in m.2.2.1 l h1 (by omega)) h1 (by omega) fun y0 a0 b0 => ?_)
 exact ⟨by omega, b0⟩
theorem szSpot_fit (m : Sp) (l : Int) (h2 : l ≤ 1048576) (h1 : 0 ≤ l) (h : 0 ≤ szSpot m l) : fitSpot m := by
 obtain ⟨p0, h⟩ := nx_fit h
 have e0 := famExpr.s_fit m.2.2.1 l (by omega) h1 p0
 have b0 := famExpr.s_in m.2.2.1 l h1 (by omega)
 exact e0
theorem af89 (m : Sp) (l : Int) (h1 : 0 ≤ l) (h2 : l ≤ 1048576) : AF Tryd.prog 89 [eSp m, eI l] (.own (eI (szSpot m l))) := by
 refine af_of_res res89 mixed rfl fun _ => ?_
 simp +contextual -implicitDefEqProofs only [rc89, eSp, go_sem, eI, eB, ↓reduceIte, Nat.reduceEqDiff, Nat.reduceAdd, Nat.reduceLeDiff, Nat.reduceMul, Nat.reduceBEq, Nat.reduceBneDiff, Nat.reduceLT, Nat.reduceSub]
 refine callQ_self ?_ (famExpr.afS m.2.2.1 l (by omega) (by omega)) ?_
 ·first | exact rfl | (simp only [eE_eta]; exact rfl)
 simp +contextual -implicitDefEqProofs only [eSp, go_sem, eI, eB, ↓reduceIte, Nat.reduceEqDiff, Nat.reduceAdd, Nat.reduceLeDiff, Nat.reduceMul, Nat.reduceBEq, Nat.reduceBneDiff, Nat.reduceLT, Nat.reduceSub]
 have b0 := famExpr.s_in m.2.2.1 l (by omega) (by omega)
 refine ⟨fun h => D.Le.sc_eq (by simp only [szSpot]; rw [nx_neg h]), fun g0 => ?_⟩
 exact D.Le.sc_eq (by simp only [szSpot]; rw [nx_pos g0])
theorem af93 (m : Sp) (h : fitSpot m) : AF Tryd.prog 93 [eSp m] (.own (eSp (tSpot m))) := by
 refine af_of_res res93 mixed rfl fun _ => ?_
 simp +contextual -implicitDefEqProofs only [rc93, eSp, tSpot, famExpr_t, eE_te, tE_k, tE_n, tE_nn, tE_ks, go_sem, eI, eB, ↓reduceIte, Nat.reduceEqDiff, Nat.reduceAdd, Nat.reduceLeDiff, Nat.reduceMul, Nat.reduceBEq, Nat.reduceBneDiff, Nat.reduceLT, Nat.reduceSub]
 refine callQ_self ?_ (famExpr.afT m.2.2.1 h) ?_
 ·first | exact rfl | (simp only [eE_eta]; exact rfl)
 simp +contextual -implicitDefEqProofs only [eSp, tSpot, famExpr_t, eE_te, tE_k, tE_n, tE_nn, tE_ks, go_sem, eI, eB, ↓reduceIte, Nat.reduceEqDiff, Nat.reduceAdd, Nat.reduceLeDiff, Nat.reduceMul, Nat.reduceBEq, Nat.reduceBneDiff, Nat.reduceLT, Nat.reduceSub]
theorem af100 (a b : Sp) : AF Tryd.prog 100 [eSp a, eSp b] (.own (eB (qSpot a b))) := by
 refine af_of_res res100 mixed rfl fun _ => ?_
 cases e0 : (a.1 == b.1)
 ·simp +contextual -implicitDefEqProofs only [rc100, qSpot, bne, Bool.not_true, Bool.not_false, Bool.true_and, Bool.false_and, Bool.and_true, Bool.and_false, eSp, e0, go_sem, eI, eB, ↓reduceIte, Nat.reduceEqDiff, Nat.reduceAdd, Nat.reduceLeDiff, Nat.reduceMul, Nat.reduceBEq, Nat.reduceBneDiff, Nat.reduceLT, Nat.reduceSub]
 cases e1 : (a.2.1 == b.2.1)
 ·simp +contextual -implicitDefEqProofs only [rc100, qSpot, bne, Bool.not_true, Bool.not_false, Bool.true_and, Bool.false_and, Bool.and_true, Bool.and_false, eSp, e0, e1, go_sem, eI, eB, ↓reduceIte, Nat.reduceEqDiff, Nat.reduceAdd, Nat.reduceLeDiff, Nat.reduceMul, Nat.reduceBEq, Nat.reduceBneDiff, Nat.reduceLT, Nat.reduceSub]
 simp +contextual -implicitDefEqProofs only [rc100, qSpot, bne, Bool.not_true, Bool.not_false, Bool.true_and, Bool.false_and, Bool.and_true, Bool.and_false, eSp, e0, e1, go_sem, eI, eB, ↓reduceIte, Nat.reduceEqDiff, Nat.reduceAdd, Nat.reduceLeDiff, Nat.reduceMul, Nat.reduceBEq, Nat.reduceBneDiff, Nat.reduceLT, Nat.reduceSub]
 refine callQ_self ?_ (famExpr.afQ a.2.2.1 b.2.2.1) ?_
 ·first | exact rfl | (simp only [eE_eta]; exact rfl)
 cases e2 : famExpr.q a.2.2.1 b.2.2.1
 ·simp +contextual -implicitDefEqProofs only [qSpot, bne, Bool.not_true, Bool.not_false, Bool.true_and, Bool.false_and, Bool.and_true, Bool.and_false, eSp, e0, e1, e2, go_sem, eI, eB, ↓reduceIte, Nat.reduceEqDiff, Nat.reduceAdd, Nat.reduceLeDiff, Nat.reduceMul, Nat.reduceBEq, Nat.reduceBneDiff, Nat.reduceLT, Nat.reduceSub]
 cases e3 : (a.2.2.2.1 == b.2.2.2.1)
 ·simp +contextual -implicitDefEqProofs only [qSpot, bne, Bool.not_true, Bool.not_false, Bool.true_and, Bool.false_and, Bool.and_true, Bool.and_false, eSp, e0, e1, e2, e3, go_sem, eI, eB, ↓reduceIte, Nat.reduceEqDiff, Nat.reduceAdd, Nat.reduceLeDiff, Nat.reduceMul, Nat.reduceBEq, Nat.reduceBneDiff, Nat.reduceLT, Nat.reduceSub]
 cases e4 : (a.2.2.2.2 == b.2.2.2.2)
 ·simp +contextual -implicitDefEqProofs only [qSpot, bne, Bool.not_true, Bool.not_false, Bool.true_and, Bool.false_and, Bool.and_true, Bool.and_false, eSp, e0, e1, e2, e3, e4, go_sem, eI, eB, ↓reduceIte, Nat.reduceEqDiff, Nat.reduceAdd, Nat.reduceLeDiff, Nat.reduceMul, Nat.reduceBEq, Nat.reduceBneDiff, Nat.reduceLT, Nat.reduceSub]
 ·simp +contextual -implicitDefEqProofs only [qSpot, bne, Bool.not_true, Bool.not_false, Bool.true_and, Bool.false_and, Bool.and_true, Bool.and_false, eSp, e0, e1, e2, e3, e4, go_sem, eI, eB, ↓reduceIte, Nat.reduceEqDiff, Nat.reduceAdd, Nat.reduceLeDiff, Nat.reduceMul, Nat.reduceBEq, Nat.reduceBneDiff, Nat.reduceLT, Nat.reduceSub]
theorem qSpot_refl (m : Sp) : qSpot m m = true := by simp [qSpot, famExpr.q_refl]
noncomputable def famSpot : Fam Tryd.prog eSp 89 93 100 := ⟨szSpot, tSpot, qSpot, fitSpot, szSpot_in, szSpot_fit, qSpot_refl, af89, af93, af100⟩
theorem famSpot_t (x) : famSpot.t x = tSpot x := rfl
noncomputable def famSpotS : Fam Tryd.prog (eS 7 eSp) 52 56 62 := famC mixed famSpot encSp ⟨rfl, rfl, rfl⟩ (by omega) res52 res56 res62
theorem famSpotS_t (x) : famSpotS.t x = (some false, x.2.map famSpot.t) := rfl
noncomputable def szFlow (m : Fl) : Int → Int := fun l => nx (famSpotS.s m.2 l) (fun l => l)
def fitFlow (m : Fl) : Prop := famSpotS.fit m.2
noncomputable def tFlow (m : Fl) : Fl := (m.1, famSpotS.t m.2)
noncomputable def qFlow (a b : Fl) : Bool := ((a.1 == b.1) && famSpotS.q a.2 b.2)
theorem szFlow_in (m : Fl) (l : Int) (h1 : 0 ≤ l) (h2 : l ≤ 1048576) : -1 ≤ szFlow m l ∧ szFlow m l ≤ l := by
 refine in_tr (Int.le_refl l) (nx_in (famSpotS.s_in m.2 l h1 (by omega)) h1 (by omega) fun y0 a0 b0 => ?_)
 exact ⟨by omega, b0⟩
theorem szFlow_fit (m : Fl) (l : Int) (h2 : l ≤ 1048576) (h1 : 0 ≤ l) (h : 0 ≤ szFlow m l) : fitFlow m := by
 obtain ⟨p0, h⟩ := nx_fit h
 have e0 := famSpotS.s_fit m.2 l (by omega) h1 p0
 have b0 := famSpotS.s_in m.2 l h1 (by omega)
 exact e0
theorem af19 (m : Fl) (l : Int) (h1 : 0 ≤ l) (h2 : l ≤ 1048576) : AF Tryd.prog 19 [eFl m, eI l] (.own (eI (szFlow m l))) := by
 refine af_of_res res19 mixed rfl fun _ => ?_
 simp +contextual -implicitDefEqProofs only [rc19, eFl, eS, go_sem, eI, eB, ↓reduceIte, Nat.reduceEqDiff, Nat.reduceAdd, Nat.reduceLeDiff, Nat.reduceMul, Nat.reduceBEq, Nat.reduceBneDiff, Nat.reduceLT, Nat.reduceSub]
 refine callQ_self ?_ (famSpotS.afS m.2 l (by omega) (by omega)) ?_
 ·first | exact rfl | (simp only [eE_eta]; exact rfl)
 simp +contextual -implicitDefEqProofs only [eFl, eS, go_sem, eI, eB, ↓reduceIte, Nat.reduceEqDiff, Nat.reduceAdd, Nat.reduceLeDiff, Nat.reduceMul, Nat.reduceBEq, Nat.reduceBneDiff, Nat.reduceLT, Nat.reduceSub]
 have b0 := famSpotS.s_in m.2 l (by omega) (by omega)
 refine ⟨fun h => D.Le.sc_eq (by simp only [szFlow]; rw [nx_neg h]), fun g0 => ?_⟩
 exact D.Le.sc_eq (by simp only [szFlow]; rw [nx_pos g0])
theorem af21 (m : Fl) (h : fitFlow m) : AF Tryd.prog 21 [eFl m] (.own (eFl (tFlow m))) := by
 refine af_of_res res21 mixed rfl fun _ => ?_
 simp +contextual -implicitDefEqProofs only [rc21, eFl, eS, tFlow, famSpotS_t, go_sem, eI, eB, ↓reduceIte, Nat.reduceEqDiff, Nat.reduceAdd, Nat.reduceLeDiff, Nat.reduceMul, Nat.reduceBEq, Nat.reduceBneDiff, Nat.reduceLT, Nat.reduceSub]
 refine callQ_self ?_ (famSpotS.afT m.2 h) ?_
 ·first | exact rfl | (simp only [eE_eta]; exact rfl)
 simp +contextual -implicitDefEqProofs only [eFl, eS, tFlow, famSpotS_t, go_sem, eI, eB, ↓reduceIte, Nat.reduceEqDiff, Nat.reduceAdd, Nat.reduceLeDiff, Nat.reduceMul, Nat.reduceBEq, Nat.reduceBneDiff, Nat.reduceLT, Nat.reduceSub]
theorem af23 (a b : Fl) : AF Tryd.prog 23 [eFl a, eFl b] (.own (eB (qFlow a b))) := by
 refine af_of_res res23 mixed rfl fun _ => ?_
 cases e0 : (a.1 == b.1)
 ·simp +contextual -implicitDefEqProofs only [rc23, qFlow, bne, Bool.not_true, Bool.not_false, Bool.true_and, Bool.false_and, Bool.and_true, Bool.and_false, eFl, eS, e0, go_sem, eI, eB, ↓reduceIte, Nat.reduceEqDiff, Nat.reduceAdd, Nat.reduceLeDiff, Nat.reduceMul, Nat.reduceBEq, Nat.reduceBneDiff, Nat.reduceLT, Nat.reduceSub]
 simp +contextual -implicitDefEqProofs only [rc23, qFlow, bne, Bool.not_true, Bool.not_false, Bool.true_and, Bool.false_and, Bool.and_true, Bool.and_false, eFl, eS, e0, go_sem, eI, eB, ↓reduceIte, Nat.reduceEqDiff, Nat.reduceAdd, Nat.reduceLeDiff, Nat.reduceMul, Nat.reduceBEq, Nat.reduceBneDiff, Nat.reduceLT, Nat.reduceSub]
 refine callQ_self ?_ (famSpotS.afQ a.2 b.2) ?_
 ·first | exact rfl | (simp only [eE_eta]; exact rfl)
 cases e1 : famSpotS.q a.2 b.2
 ·simp +contextual -implicitDefEqProofs only [qFlow, bne, Bool.not_true, Bool.not_false, Bool.true_and, Bool.false_and, Bool.and_true, Bool.and_false, eFl, eS, e0, e1, go_sem, eI, eB, ↓reduceIte, Nat.reduceEqDiff, Nat.reduceAdd, Nat.reduceLeDiff, Nat.reduceMul, Nat.reduceBEq, Nat.reduceBneDiff, Nat.reduceLT, Nat.reduceSub]
 ·simp +contextual -implicitDefEqProofs only [qFlow, bne, Bool.not_true, Bool.not_false, Bool.true_and, Bool.false_and, Bool.and_true, Bool.and_false, eFl, eS, e0, e1, go_sem, eI, eB, ↓reduceIte, Nat.reduceEqDiff, Nat.reduceAdd, Nat.reduceLeDiff, Nat.reduceMul, Nat.reduceBEq, Nat.reduceBneDiff, Nat.reduceLT, Nat.reduceSub]
theorem qFlow_refl (m : Fl) : qFlow m m = true := by simp [qFlow, famSpotS.q_refl]
noncomputable def famFlow : Fam Tryd.prog eFl 19 21 23 := ⟨szFlow, tFlow, qFlow, fitFlow, szFlow_in, szFlow_fit, qFlow_refl, af19, af21, af23⟩
theorem famFlow_t (x) : famFlow.t x = tFlow x := rfl
theorem law (g : Int × Int) (f : Fl) : AF Tryd.prog 5 [eG g, eFl f] (.own (eB true)) := by
 refine af_of_res res5 mixed rfl fun hbd => ?_
 simp +contextual -implicitDefEqProofs only [rc5, eG, eFl, eS, famFlow_t, tFlow, famSpotS_t, bne_self_eq_false, go_sem, eI, eB, ↓reduceIte, Nat.reduceEqDiff, Nat.reduceAdd, Nat.reduceLeDiff, Nat.reduceMul, Nat.reduceBEq, Nat.reduceBneDiff, Nat.reduceLT, Nat.reduceSub]
 refine callQ_self (ds := [eFl f, eI 1048576]) ?_ (famFlow.afS f 1048576 (by omega) (by omega)) ?_
 ·simp only [eG, eFl, eS, famFlow_t, tFlow, famSpotS_t, bne_self_eq_false]; exact rfl
 simp +contextual -implicitDefEqProofs only [eG, eFl, eS, famFlow_t, tFlow, famSpotS_t, bne_self_eq_false, go_sem, eI, eB, ↓reduceIte, Nat.reduceEqDiff, Nat.reduceAdd, Nat.reduceLeDiff, Nat.reduceMul, Nat.reduceBEq, Nat.reduceBneDiff, Nat.reduceLT, Nat.reduceSub]
 have sb0 := famFlow.s_in f 1048576 (by omega) (by omega)
 refine fun hs0 => ?_
 have hf0 := famFlow.s_fit f 1048576 (by omega) (by omega) (by omega)
 refine callQ_self (ds := [eG g]) ?_ (af15 g) ?_
 ·simp only [eG, eFl, eS, famFlow_t, tFlow, famSpotS_t, bne_self_eq_false]; exact rfl
 simp +contextual -implicitDefEqProofs only [eT, eG, eFl, eS, famFlow_t, tFlow, famSpotS_t, bne_self_eq_false, go_sem, eI, eB, ↓reduceIte, Nat.reduceEqDiff, Nat.reduceAdd, Nat.reduceLeDiff, Nat.reduceMul, Nat.reduceBEq, Nat.reduceBneDiff, Nat.reduceLT, Nat.reduceSub]
 refine callQ_self (ds := [eFl f]) ?_ (famFlow.afT f hf0) ?_
 ·simp only [eG, eFl, eS, famFlow_t, tFlow, famSpotS_t, bne_self_eq_false]; exact rfl
 simp +contextual -implicitDefEqProofs only [eT, eG, eFl, eS, famFlow_t, tFlow, famSpotS_t, bne_self_eq_false, go_sem, eI, eB, ↓reduceIte, Nat.reduceEqDiff, Nat.reduceAdd, Nat.reduceLeDiff, Nat.reduceMul, Nat.reduceBEq, Nat.reduceBneDiff, Nat.reduceLT, Nat.reduceSub]
 have hsp := af20 g (famFlow.t f)
 have him := af22 g (famFlow.t f)
 generalize txtFl g (famFlow.t f) = tx at hsp him
 refine callQ_self (ds := [eG g, eFl (famFlow.t f)]) ?_ (hsp) ?_
 ·simp only [eG, eFl, eS, famFlow_t, tFlow, famSpotS_t, bne_self_eq_false]; exact rfl
 simp +contextual -implicitDefEqProofs only [eT, eG, eFl, eS, famFlow_t, tFlow, famSpotS_t, bne_self_eq_false, go_sem, eI, eB, ↓reduceIte, Nat.reduceEqDiff, Nat.reduceAdd, Nat.reduceLeDiff, Nat.reduceMul, Nat.reduceBEq, Nat.reduceBneDiff, Nat.reduceLT, Nat.reduceSub]
 refine callQ_self (ds := [eFl f]) ?_ (famFlow.afT f hf0) ?_
 ·simp only [eG, eFl, eS, famFlow_t, tFlow, famSpotS_t, bne_self_eq_false]; exact rfl
 simp +contextual -implicitDefEqProofs only [eT, eG, eFl, eS, famFlow_t, tFlow, famSpotS_t, bne_self_eq_false, go_sem, eI, eB, ↓reduceIte, Nat.reduceEqDiff, Nat.reduceAdd, Nat.reduceLeDiff, Nat.reduceMul, Nat.reduceBEq, Nat.reduceBneDiff, Nat.reduceLT, Nat.reduceSub]
 refine callQ_self (ds := [eG g]) ?_ (af15 g) ?_
 ·simp only [eG, eFl, eS, famFlow_t, tFlow, famSpotS_t, bne_self_eq_false]; exact rfl
 simp +contextual -implicitDefEqProofs only [eT, eG, eFl, eS, famFlow_t, tFlow, famSpotS_t, bne_self_eq_false, go_sem, eI, eB, ↓reduceIte, Nat.reduceEqDiff, Nat.reduceAdd, Nat.reduceLeDiff, Nat.reduceMul, Nat.reduceBEq, Nat.reduceBneDiff, Nat.reduceLT, Nat.reduceSub]
 refine callQ_self (ds := [eG g, eFl (famFlow.t f)]) ?_ (him) ?_
 ·simp only [eG, eFl, eS, famFlow_t, tFlow, famSpotS_t, bne_self_eq_false]; exact rfl
 simp +contextual -implicitDefEqProofs only [eT, beq_self_eq_true, eG, eFl, eS, famFlow_t, tFlow, famSpotS_t, bne_self_eq_false, go_sem, eI, eB, ↓reduceIte, Nat.reduceEqDiff, Nat.reduceAdd, Nat.reduceLeDiff, Nat.reduceMul, Nat.reduceBEq, Nat.reduceBneDiff, Nat.reduceLT, Nat.reduceSub]
 refine callQ_self (ds := [eFl f]) ?_ (famFlow.afT f hf0) ?_
 ·simp only [eG, eFl, eS, famFlow_t, tFlow, famSpotS_t, bne_self_eq_false]; exact rfl
 simp +contextual -implicitDefEqProofs only [eT, eG, eFl, eS, famFlow_t, tFlow, famSpotS_t, bne_self_eq_false, go_sem, eI, eB, ↓reduceIte, Nat.reduceEqDiff, Nat.reduceAdd, Nat.reduceLeDiff, Nat.reduceMul, Nat.reduceBEq, Nat.reduceBneDiff, Nat.reduceLT, Nat.reduceSub]
 refine callQ_self (ds := [eFl (famFlow.t f), eFl (famFlow.t f)]) ?_ (famFlow.afQ (famFlow.t f) (famFlow.t f)) ?_
 ·simp only [eG, eFl, eS, famFlow_t, tFlow, famSpotS_t, bne_self_eq_false]; exact rfl
 simp +contextual -implicitDefEqProofs only [famFlow.q_refl, Bool.not_true, eT, eG, eFl, eS, famFlow_t, tFlow, famSpotS_t, bne_self_eq_false, go_sem, eI, eB, ↓reduceIte, Nat.reduceEqDiff, Nat.reduceAdd, Nat.reduceLeDiff, Nat.reduceMul, Nat.reduceBEq, Nat.reduceBneDiff, Nat.reduceLT, Nat.reduceSub]
end Go.Ax
