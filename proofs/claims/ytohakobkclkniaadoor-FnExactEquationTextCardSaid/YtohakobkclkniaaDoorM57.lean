/- Contracts of functions of the seat, proved over the engine. No condition. -/
import Derived.Test.YtohakobkclkniaaDoorX83
import Derived.Test.YtohakobkclkniaaDoorX82
import Derived.Test.YtohakobkclkniaaDoorAxO
import Derived.Test.YtohakobkclkniaaDoorChecked
set_option linter.unusedSimpArgs false
set_option linter.unusedVariables false
set_option linter.unnecessarySimpa false
namespace Go.Ax
open Go.Proofs Go.Shelf
set_option linter.unusedSimpArgs false
theorem mixed : Tryd.prog.follows .mixedOrders = true := by kernel_rfl
theorem res84 : resF Tryd.prog 84 = some (27, cSzC 45 3 true, [.t 4]) := by kernel_rfl
theorem res45 : resF Tryd.prog 45 = some (12, k_szExpr 84, [.t 4]) := by kernel_rfl

def rc13 : RC := (.seq (.reg false [⟨none, .box 2 6 (.t 0)⟩, ⟨none, .mv 4 (.c (.sc (.int .i64 0)))⟩]) ((.seq (.reg false [⟨none, .fa 5 0 (.t 2)⟩, ⟨none, .ld 6 true 3 (.t 5)⟩, ⟨none, .mv 7 (.t 1)⟩, ⟨none, .call (some 8) 45 [(.t 6), (.t 7)]⟩, ⟨none, .mv 1 (.t 8)⟩]) ((.seq ((.seq (.reg false [⟨none, .mv 9 (.t 1)⟩, ⟨none, .bin 10 .lss (.t 9) (.c (.sc (.int .i64 0)))⟩]) (.cond (.t 10) ((.seq (.reg false [⟨none, .mv 4 (.c (.sc (.int .i64 (-1))))⟩]) (.ret))) (.skip)))) ((.seq (.reg false [⟨none, .fa 11 3 (.t 2)⟩, ⟨none, .ld 12 true 3 (.t 11)⟩, ⟨none, .mv 13 (.t 1)⟩, ⟨none, .call (some 14) 45 [(.t 12), (.t 13)]⟩, ⟨none, .mv 1 (.t 14)⟩]) ((.seq ((.seq (.reg false [⟨none, .mv 15 (.t 1)⟩, ⟨none, .bin 16 .lss (.t 15) (.c (.sc (.int .i64 0)))⟩]) (.cond (.t 16) ((.seq (.reg false [⟨none, .mv 4 (.c (.sc (.int .i64 (-1))))⟩]) (.ret))) (.skip)))) ((.seq (.reg false [⟨none, .mv 17 (.t 1)⟩, ⟨none, .mv 4 (.t 17)⟩]) (.ret))))))))))))
theorem res13 : resF Tryd.prog 13 = some (18, rc13, [.t 4]) := by kernel_rfl
theorem res15 : resF Tryd.prog 15 = some (11, k_toSig, [.c 2 2 true]) := by kernel_rfl
theorem af15 : K_toSig Tryd.prog 15 := a_toSig mixed res15
theorem res86 : resF Tryd.prog 86 = some (23, cToC 48 3 40 true (.ag [(.sc (.int .i64 0)), (.sc (.int .i64 0)), (.ls (some true) 3 [])]), [.t 2]) := by kernel_rfl
theorem res48 : resF Tryd.prog 48 = some (15, k_toExpr 86, [.c 2 3 true]) := by kernel_rfl

def rc16 : RC := (.seq (.reg false [⟨none, .box 1 6 (.t 0)⟩, ⟨none, .zer 2 6 (.ag [(.sc (.int .i64 0)), (.sc (.int .i64 0)), (.ls (some true) 3 []), (.sc (.int .i64 0)), (.sc (.int .i64 0)), (.ls (some true) 3 [])])⟩]) ((.seq (.reg false [⟨none, .zer 3 6 (.ag [(.sc (.int .i64 0)), (.sc (.int .i64 0)), (.ls (some true) 3 []), (.sc (.int .i64 0)), (.sc (.int .i64 0)), (.ls (some true) 3 [])])⟩]) ((.seq (.reg false [⟨none, .fa 4 0 (.t 1)⟩, ⟨none, .ld 5 true 3 (.t 4)⟩, ⟨none, .call (some 6) 48 [(.t 5)]⟩, ⟨none, .fa 7 0 (.t 3)⟩, ⟨none, .st 3 (.t 7) (.t 6)⟩]) ((.seq (.reg false [⟨none, .fa 8 3 (.t 1)⟩, ⟨none, .ld 9 true 3 (.t 8)⟩, ⟨none, .call (some 10) 48 [(.t 9)]⟩, ⟨none, .fa 11 3 (.t 3)⟩, ⟨none, .st 3 (.t 11) (.t 10)⟩]) ((.seq (.reg false [⟨none, .ld 12 true 6 (.t 3)⟩, ⟨none, .st 6 (.t 2) (.t 12)⟩]) (.ret))))))))))
theorem res16 : resF Tryd.prog 16 = some (13, rc16, [.c 2 6 true]) := by kernel_rfl
theorem res91 : resF Tryd.prog 91 = some (15, k_l00In, [.t 6]) := by kernel_rfl
theorem af91 : K_l00In Tryd.prog 91 := a_l00In mixed res91
theorem res90 : resF Tryd.prog 90 = some (11, k_l01Sig 91, [.t 2]) := by kernel_rfl
theorem af90 : K_l01Sig Tryd.prog 90 := a_l01Sig mixed res90 af91
theorem res113 : resF Tryd.prog 113 = some (30, k_l01Left 113, [.t 4]) := by kernel_rfl
theorem af113 : K_l01Left Tryd.prog 113 := a_l01Left mixed res113
theorem res123 : resF Tryd.prog 123 = some (10, k_l00Max, [.t 4]) := by kernel_rfl
theorem af123 : K_l00Max Tryd.prog 123 := a_l00Max mixed res123
theorem res114 : resF Tryd.prog 114 = some (25, k_l01Depth 114 123, [.t 2]) := by kernel_rfl
theorem af114 : K_l01Depth Tryd.prog 114 := a_l01Depth mixed res114 af123
theorem res136 : resF Tryd.prog 136 = some (15, k_l01Kids, [.t 2]) := by kernel_rfl
theorem af136 : K_l01Kids Tryd.prog 136 := a_l01Kids mixed res136
theorem res137 : resF Tryd.prog 137 = some (34, k_l01Condition 137 91, [.t 2]) := by kernel_rfl
theorem af137 : K_l01Condition Tryd.prog 137 := a_l01Condition mixed res137 af91
theorem res115 : resF Tryd.prog 115 = some (80, k_l01Tree 115 136 91 137, [.t 4]) := by kernel_rfl
theorem af115 : K_l01Tree Tryd.prog 115 := a_l01Tree mixed res115 af136 af91 af137
theorem res85 : resF Tryd.prog 85 = some (22, k_l01Ok 90 113 114 115, [.t 4]) := by kernel_rfl
theorem af85 : K_l01Ok Tryd.prog 85 := a_l01Ok mixed res85 af90 af113 af114 af115
theorem res46 : resF Tryd.prog 46 = some (17, k_l04Equation 85, [.t 4]) := by kernel_rfl
theorem af46 : K_l04Equation Tryd.prog 46 := a_l04Equation mixed res46 af85
theorem res54 : resF Tryd.prog 54 = some (20, k_spDecimal 54, [.t 2]) := by kernel_rfl
theorem af54 : K_spDecimal Tryd.prog 54 := a_spDecimal mixed res54
theorem res55 : resF Tryd.prog 55 = some (79, k_l01Text 55 54, [.t 2]) := by kernel_rfl
theorem af55 : K_l01Text Tryd.prog 55 := a_l01Text mixed res55 af54
theorem res47 : resF Tryd.prog 47 = some (13, k_l04Line 55, [.t 2]) := by kernel_rfl
theorem af47 : K_l04Line Tryd.prog 47 := a_l04Line mixed res47 af55
theorem res14 : resF Tryd.prog 14 = some (9, k_spEquationText 46 47, [.t 4]) := by kernel_rfl
theorem af14 : K_spEquationText Tryd.prog 14 := a_spEquationText mixed res14 af46 af47
theorem res152 : resF Tryd.prog 152 = some (15, k_kidsOf, [.t 2]) := by kernel_rfl
theorem af152 : K_kidsOf Tryd.prog 152 := a_kidsOf mixed res152
theorem res95 : resF Tryd.prog 95 = some (15, k_within, [.t 6]) := by kernel_rfl
theorem af95 : K_within Tryd.prog 95 := a_within mixed res95
theorem res139 : resF Tryd.prog 139 = some (25, k_isCondition 139, [.t 2]) := by kernel_rfl
theorem af139 : K_isCondition Tryd.prog 139 := a_isCondition mixed res139
theorem res138 : resF Tryd.prog 138 = some (86, k_shaped 138 152 95 139, [.t 8, .t 9]) := by kernel_rfl
theorem af138 : K_shaped Tryd.prog 138 := a_shaped mixed res138 af152 af95 af139
theorem res116 : resF Tryd.prog 116 = some (14, k_isExpr 138, [.t 4]) := by kernel_rfl
theorem af116 : K_isExpr Tryd.prog 116 := a_isExpr mixed res116 af138
theorem res94 : resF Tryd.prog 94 = some (11, k_validSig 95, [.t 2]) := by kernel_rfl
theorem af94 : K_validSig Tryd.prog 94 := a_validSig mixed res94 af95
theorem res87 : resF Tryd.prog 87 = some (20, k_validExprs 116 94, [.t 4]) := by kernel_rfl
theorem af87 : K_validExprs Tryd.prog 87 := a_validExprs mixed res87 af116 af94
theorem res49 : resF Tryd.prog 49 = some (12, k_imValidEquation 87, [.t 4]) := by kernel_rfl
theorem af49 : K_imValidEquation Tryd.prog 49 := a_imValidEquation mixed res49 af87
theorem res140 : resF Tryd.prog 140 = some (15, k_small, [.t 2]) := by kernel_rfl
theorem af140 : K_small Tryd.prog 140 := a_small mixed res140
theorem res122 : resF Tryd.prog 122 = some (54, k_formatInt 140 141 142 143 (othF Tryd.prog 122 0) (othF Tryd.prog 122 1) (othF Tryd.prog 122 2) (othF Tryd.prog 122 3), [.t 4]) := by kernel_rfl
theorem af122 : K_formatInt Tryd.prog 122 := a_formatInt mixed res122 af140
theorem res98 : resF Tryd.prog 98 = some (8, k_formatIntS 122, [.t 4]) := by kernel_rfl
theorem af98 : K_formatIntS Tryd.prog 98 := a_formatIntS mixed res98 af122
theorem res59 : resF Tryd.prog 59 = some (5, k_imDecimal 98, [.t 2]) := by kernel_rfl
theorem af59 : K_imDecimal Tryd.prog 59 := a_imDecimal mixed res59 af98
def sbRen : Go.Shelf.Ren := ⟨fun | 166 => 58 | 240 => 97 | 276 => 121 | 169 => 61 | n => n, fun | 0 => 0 | 3 => 3 | 4 => 4 | 5 => 5 | 9 => 9 | 20 => 20 | 37 => 115 | 70 => 114 | 72 => 117 | 75 => 119 | 80 => 123 | 127 => 163 | 164 => 191 | n => n, fun | n => n⟩
theorem sbLay166 : Lays.n166 Tryd.prog sbRen := { mixed := by kernel_rfl, f166 := Tryd.func58.trans (congrArg some (by kernel_rfl)), f240 := Tryd.func97.trans (congrArg some (by kernel_rfl)), f276 := Tryd.func121.trans (congrArg some (by kernel_rfl)), t0 := Tryd.underlying0, a0 := Tryd.isAgg0, z0 := Tryd.sizeOf0, v0 := Tryd.zeroValue0, t3 := Tryd.underlying3, a3 := Tryd.isAgg3, z3 := Tryd.sizeOf3, v3 := Tryd.zeroValue3, t4 := Tryd.underlying4, a4 := Tryd.isAgg4, z4 := Tryd.sizeOf4, v4 := Tryd.zeroValue4, t9 := Tryd.underlying9, a9 := Tryd.isAgg9, z9 := Tryd.sizeOf9, v9 := Tryd.zeroValue9, t20 := Tryd.underlying20, a20 := Tryd.isAgg20, z20 := Tryd.sizeOf20, v20 := Tryd.zeroValue20, t37 := Tryd.underlying115, a37 := Tryd.isAgg115, z37 := Tryd.sizeOf115, v37 := Tryd.zeroValue115, t70 := Tryd.underlying114, a70 := Tryd.isAgg114, z70 := Tryd.sizeOf114, v70 := Tryd.zeroValue114, t72 := Tryd.underlying117, a72 := Tryd.isAgg117, z72 := Tryd.sizeOf117, v72 := Tryd.zeroValue117, t75 := Tryd.underlying119, a75 := Tryd.isAgg119, z75 := Tryd.sizeOf119, v75 := Tryd.zeroValue119, t164 := Tryd.underlying191, a164 := Tryd.isAgg191, z164 := Tryd.sizeOf191, v164 := Tryd.zeroValue191 }
theorem sbLay169 : Lays.n169 Tryd.prog sbRen := { mixed := by kernel_rfl, f169 := Tryd.func61.trans (congrArg some (by kernel_rfl)), t0 := Tryd.underlying0, a0 := Tryd.isAgg0, z0 := Tryd.sizeOf0, v0 := Tryd.zeroValue0, t3 := Tryd.underlying3, a3 := Tryd.isAgg3, z3 := Tryd.sizeOf3, v3 := Tryd.zeroValue3, t9 := Tryd.underlying9, a9 := Tryd.isAgg9, z9 := Tryd.sizeOf9, v9 := Tryd.zeroValue9, t37 := Tryd.underlying115, a37 := Tryd.isAgg115, z37 := Tryd.sizeOf115, v37 := Tryd.zeroValue115, t70 := Tryd.underlying114, a70 := Tryd.isAgg114, z70 := Tryd.sizeOf114, v70 := Tryd.zeroValue114, t72 := Tryd.underlying117, a72 := Tryd.isAgg117, z72 := Tryd.sizeOf117, v72 := Tryd.zeroValue117, t127 := Tryd.underlying163, a127 := Tryd.isAgg163, z127 := Tryd.sizeOf163, v127 := Tryd.zeroValue163 }
theorem sbX : Builder.Extra Tryd.prog sbRen := { sizeBuilder := by kernel_rfl, liesBuilder := by kernel_rfl, t5 := Tryd.underlying5, a5 := Tryd.isAgg5, z5 := Tryd.sizeOf5, v5 := Tryd.zeroValue5, infoByte := by kernel_rfl, cellsByte := by kernel_rfl, sizeByte := by kernel_rfl, neB5 := by decide }
theorem sbC58 : Callable Tryd.prog 58 := ⟨Tryd.f58, Tryd.func58, by kernel_rfl, by kernel_rfl⟩
theorem sbC61 : Callable Tryd.prog 61 := ⟨Tryd.f61, Tryd.func61, by kernel_rfl, by kernel_rfl⟩
theorem sbE1 : sbRen.f 166 = 58 := rfl
theorem sbE2 : sbRen.f 169 = 61 := rfl
theorem sbE3 : sbRen.t 72 = 117 := rfl
theorem sbE4 : sbRen.t 5 = 5 := rfl
theorem af58 : K_wrS Tryd.prog 58 := fun s hs => by
 have h := wrS_ok sbLay166 sbX (by rw [sbE1]; exact sbC58) s hs
 rw [sbE1, sbE3, sbE4] at h
 exact h
theorem res99 : resF Tryd.prog 99 = some (76, k_writeExpr 99 59 58, []) := by kernel_rfl
theorem af99 : K_writeExpr Tryd.prog 99 := a_writeExpr mixed res99 af59 af58
theorem af61 : K_bdS Tryd.prog 61 := by
 have h := bdS_ok sbLay169 sbX (by rw [sbE2]; exact sbC61)
 rw [sbE2, sbE3, sbE4] at h
 exact h
theorem res60 : resF Tryd.prog 60 = some (8, k_textOf 99 61, [.t 2]) := by kernel_rfl
theorem af60 : K_textOf Tryd.prog 60 := a_textOf mixed res60 af99 af61
theorem res50 : resF Tryd.prog 50 = some (11, k_equationText 60, [.t 2]) := by kernel_rfl
theorem af50 : K_equationText Tryd.prog 50 := a_equationText mixed res50 af60
theorem res17 : resF Tryd.prog 17 = some (11, k_imEquationText 49 50, [.t 4]) := by kernel_rfl
theorem af17 : K_imEquationText Tryd.prog 17 := a_imEquationText mixed res17 af49 af50
theorem res88 : resF Tryd.prog 88 = some (27, cEqC 51 3 true, [.t 4]) := by kernel_rfl
theorem res51 : resF Tryd.prog 51 = some (21, k_eqExpr 88, [.t 4]) := by kernel_rfl

def rc18 : RC := (.seq (.reg false [⟨none, .box 2 6 (.t 0)⟩, ⟨none, .box 3 6 (.t 1)⟩, ⟨none, .mv 4 (.c (.sc (.bool false)))⟩]) ((.seq ((.seq (.reg false [⟨none, .fa 5 0 (.t 2)⟩, ⟨none, .ld 6 true 3 (.t 5)⟩, ⟨none, .fa 7 0 (.t 3)⟩, ⟨none, .ld 8 true 3 (.t 7)⟩, ⟨none, .call (some 9) 51 [(.t 6), (.t 8)]⟩, ⟨none, .un 10 .not (.t 9)⟩]) (.cond (.t 10) ((.seq (.reg false [⟨none, .mv 4 (.c (.sc (.bool false)))⟩]) (.ret))) (.skip)))) ((.seq ((.seq (.reg false [⟨none, .fa 11 3 (.t 2)⟩, ⟨none, .ld 12 true 3 (.t 11)⟩, ⟨none, .fa 13 3 (.t 3)⟩, ⟨none, .ld 14 true 3 (.t 13)⟩, ⟨none, .call (some 15) 51 [(.t 12), (.t 14)]⟩, ⟨none, .un 16 .not (.t 15)⟩]) (.cond (.t 16) ((.seq (.reg false [⟨none, .mv 4 (.c (.sc (.bool false)))⟩]) (.ret))) (.skip)))) ((.seq (.reg false [⟨none, .mv 4 (.c (.sc (.bool true)))⟩]) (.ret))))))))
theorem res18 : resF Tryd.prog 18 = some (17, rc18, [.t 4]) := by kernel_rfl

def rc4 : RC := (.seq (.reg false [⟨none, .box 2 2 (.t 0)⟩, ⟨none, .box 3 6 (.t 1)⟩, ⟨none, .mv 4 (.c (.sc (.bool false)))⟩]) ((.seq (.reg false [⟨none, .mv 5 (.c (.sc (.int .i64 1048576)))⟩]) ((.seq (.reg false [⟨none, .ld 9 true 6 (.t 3)⟩, ⟨none, .mv 10 (.t 5)⟩, ⟨none, .call (some 11) 13 [(.t 9), (.t 10)]⟩, ⟨none, .mv 5 (.t 11)⟩]) ((.seq ((.seq (.reg false [⟨none, .mv 12 (.t 5)⟩, ⟨none, .bin 13 .lss (.t 12) (.c (.sc (.int .i64 0)))⟩]) (.cond (.t 13) ((.seq (.reg false [⟨none, .mv 4 (.c (.sc (.bool true)))⟩]) (.ret))) (.skip)))) ((.seq (.reg true [⟨none, .ld 14 true 2 (.t 2)⟩, ⟨none, .call (some 15) 15 [(.t 14)]⟩, ⟨none, .ld 16 true 6 (.t 3)⟩, ⟨none, .call (some 17) 16 [(.t 16)]⟩, ⟨none, .call (some 18) 14 [(.t 15), (.t 17)]⟩, ⟨none, .mv 6 (.t 18)⟩]) ((.seq (.reg false [⟨none, .ld 19 true 6 (.t 3)⟩, ⟨none, .call (some 20) 16 [(.t 19)]⟩, ⟨none, .zer 7 6 (.ag [(.sc (.int .i64 0)), (.sc (.int .i64 0)), (.ls (some true) 3 []), (.sc (.int .i64 0)), (.sc (.int .i64 0)), (.ls (some true) 3 [])])⟩, ⟨none, .st 6 (.t 7) (.t 20)⟩]) ((.seq (.reg true [⟨none, .ld 21 true 2 (.t 2)⟩, ⟨none, .call (some 22) 15 [(.t 21)]⟩, ⟨none, .ld 23 true 6 (.t 7)⟩, ⟨none, .call (some 24) 17 [(.t 22), (.t 23)]⟩, ⟨none, .mv 8 (.t 24)⟩]) ((.seq ((.seq (.reg false [⟨none, .mv 25 (.t 8)⟩, ⟨none, .mv 26 (.t 6)⟩, ⟨none, .bin 27 .neq (.t 25) (.t 26)⟩]) (.cond (.t 27) ((.seq (.reg false [⟨none, .mv 4 (.c (.sc (.bool false)))⟩]) (.ret))) (.skip)))) ((.seq ((.seq (.reg true [⟨none, .ld 28 true 6 (.t 7)⟩, ⟨none, .ld 29 true 6 (.t 3)⟩, ⟨none, .call (some 30) 16 [(.t 29)]⟩, ⟨none, .call (some 31) 18 [(.t 28), (.t 30)]⟩, ⟨none, .un 32 .not (.t 31)⟩]) (.cond (.t 32) ((.seq (.reg false [⟨none, .mv 4 (.c (.sc (.bool false)))⟩]) (.ret))) (.skip)))) ((.seq (.reg false [⟨none, .mv 4 (.c (.sc (.bool true)))⟩]) (.ret))))))))))))))))))))
theorem res4 : resF Tryd.prog 4 = some (33, rc4, [.t 4]) := by kernel_rfl
noncomputable def famExpr : Fam Tryd.prog eE 45 48 51 := famE mixed res45 res84 res48 res86 res51 res88
theorem famExpr_t (x) : famExpr.t x = tE x := rfl
noncomputable def szEquation (m : Eq2) : Int → Int := fun l => nx (famExpr.s m.1 l) (fun l => nx (famExpr.s m.2 l) (fun l => l))
def fitEquation (m : Eq2) : Prop := famExpr.fit m.1 ∧ famExpr.fit m.2
noncomputable def tEquation (m : Eq2) : Eq2 := (famExpr.t m.1, famExpr.t m.2)
noncomputable def qEquation (a b : Eq2) : Bool := (famExpr.q a.1 b.1 && famExpr.q a.2 b.2)
theorem szEquation_in (m : Eq2) (l : Int) (h1 : 0 ≤ l) (h2 : l ≤ 1048576) : -1 ≤ szEquation m l ∧ szEquation m l ≤ l := by
 refine in_tr (Int.le_refl l) (nx_in (famExpr.s_in m.1 l h1 (by omega)) h1 (by omega) fun y0 a0 b0 => ?_)
 refine in_tr b0 (nx_in (famExpr.s_in m.2 y0 a0 (by omega)) a0 (by omega) fun y1 a1 b1 => ?_)
 exact ⟨by omega, b1⟩
theorem szEquation_fit (m : Eq2) (l : Int) (h2 : l ≤ 1048576) (h1 : 0 ≤ l) (h : 0 ≤ szEquation m l) : fitEquation m := by
 obtain ⟨p0, h⟩ := nx_fit h
 have e0 := famExpr.s_fit m.1 l (by omega) h1 p0
 have b0 := famExpr.s_in m.1 l h1 (by omega)
 obtain ⟨p1, h⟩ := nx_fit h
 have e1 := famExpr.s_fit m.2 _ (by omega) p0 p1
 have b1 := famExpr.s_in m.2 (famExpr.s m.1 l) p0 (by omega)
 exact ⟨e0, e1⟩
theorem af13 (m : Eq2) (l : Int) (h1 : 0 ≤ l) (h2 : l ≤ 1048576) : AF Tryd.prog 13 [eQ m, eI l] (.own (eI (szEquation m l))) := by
 refine af_of_res res13 mixed rfl fun _ => ?_
 simp +contextual -implicitDefEqProofs only [rc13, eQ, go_sem, eI, eB, ↓reduceIte, Nat.reduceEqDiff, Nat.reduceAdd, Nat.reduceLeDiff, Nat.reduceMul, Nat.reduceBEq, Nat.reduceBneDiff, Nat.reduceLT, Nat.reduceSub]
 refine callQ_self ?_ (famExpr.afS m.1 l (by omega) (by omega)) ?_
 ·first | exact rfl | (simp only [eE_eta]; exact rfl)
 simp +contextual -implicitDefEqProofs only [eQ, go_sem, eI, eB, ↓reduceIte, Nat.reduceEqDiff, Nat.reduceAdd, Nat.reduceLeDiff, Nat.reduceMul, Nat.reduceBEq, Nat.reduceBneDiff, Nat.reduceLT, Nat.reduceSub]
 have b0 := famExpr.s_in m.1 l (by omega) (by omega)
 refine ⟨fun h => D.Le.sc_eq (by simp only [szEquation]; rw [nx_neg h]), fun g0 => ?_⟩
 refine callQ_self ?_ (famExpr.afS m.2 (famExpr.s m.1 l) (by omega) (by omega)) ?_
 ·first | exact rfl | (simp only [eE_eta]; exact rfl)
 simp +contextual -implicitDefEqProofs only [eQ, go_sem, eI, eB, ↓reduceIte, Nat.reduceEqDiff, Nat.reduceAdd, Nat.reduceLeDiff, Nat.reduceMul, Nat.reduceBEq, Nat.reduceBneDiff, Nat.reduceLT, Nat.reduceSub]
 have b1 := famExpr.s_in m.2 (famExpr.s m.1 l) (by omega) (by omega)
 refine ⟨fun h => D.Le.sc_eq (by simp only [szEquation]; rw [nx_pos g0, nx_neg h]), fun g1 => ?_⟩
 exact D.Le.sc_eq (by simp only [szEquation]; rw [nx_pos g0, nx_pos g1])
theorem af16 (m : Eq2) (h : fitEquation m) : AF Tryd.prog 16 [eQ m] (.own (eQ (tEquation m))) := by
 refine af_of_res res16 mixed rfl fun _ => ?_
 simp +contextual -implicitDefEqProofs only [rc16, eQ, tEquation, famExpr_t, eE_te, tE_k, tE_n, tE_nn, tE_ks, go_sem, eI, eB, ↓reduceIte, Nat.reduceEqDiff, Nat.reduceAdd, Nat.reduceLeDiff, Nat.reduceMul, Nat.reduceBEq, Nat.reduceBneDiff, Nat.reduceLT, Nat.reduceSub]
 refine callQ_self ?_ (famExpr.afT m.1 h.1) ?_
 ·first | exact rfl | (simp only [eE_eta]; exact rfl)
 simp +contextual -implicitDefEqProofs only [eQ, tEquation, famExpr_t, eE_te, tE_k, tE_n, tE_nn, tE_ks, go_sem, eI, eB, ↓reduceIte, Nat.reduceEqDiff, Nat.reduceAdd, Nat.reduceLeDiff, Nat.reduceMul, Nat.reduceBEq, Nat.reduceBneDiff, Nat.reduceLT, Nat.reduceSub]
 refine callQ_self ?_ (famExpr.afT m.2 h.2) ?_
 ·first | exact rfl | (simp only [eE_eta]; exact rfl)
 simp +contextual -implicitDefEqProofs only [eQ, tEquation, famExpr_t, eE_te, tE_k, tE_n, tE_nn, tE_ks, go_sem, eI, eB, ↓reduceIte, Nat.reduceEqDiff, Nat.reduceAdd, Nat.reduceLeDiff, Nat.reduceMul, Nat.reduceBEq, Nat.reduceBneDiff, Nat.reduceLT, Nat.reduceSub]
theorem af18 (a b : Eq2) : AF Tryd.prog 18 [eQ a, eQ b] (.own (eB (qEquation a b))) := by
 refine af_of_res res18 mixed rfl fun _ => ?_
 simp +contextual -implicitDefEqProofs only [rc18, qEquation, bne, Bool.not_true, Bool.not_false, Bool.true_and, Bool.false_and, Bool.and_true, Bool.and_false, eQ, go_sem, eI, eB, ↓reduceIte, Nat.reduceEqDiff, Nat.reduceAdd, Nat.reduceLeDiff, Nat.reduceMul, Nat.reduceBEq, Nat.reduceBneDiff, Nat.reduceLT, Nat.reduceSub]
 refine callQ_self ?_ (famExpr.afQ a.1 b.1) ?_
 ·first | exact rfl | (simp only [eE_eta]; exact rfl)
 cases e0 : famExpr.q a.1 b.1
 ·simp +contextual -implicitDefEqProofs only [qEquation, bne, Bool.not_true, Bool.not_false, Bool.true_and, Bool.false_and, Bool.and_true, Bool.and_false, eQ, e0, go_sem, eI, eB, ↓reduceIte, Nat.reduceEqDiff, Nat.reduceAdd, Nat.reduceLeDiff, Nat.reduceMul, Nat.reduceBEq, Nat.reduceBneDiff, Nat.reduceLT, Nat.reduceSub]
 simp +contextual -implicitDefEqProofs only [qEquation, bne, Bool.not_true, Bool.not_false, Bool.true_and, Bool.false_and, Bool.and_true, Bool.and_false, eQ, e0, go_sem, eI, eB, ↓reduceIte, Nat.reduceEqDiff, Nat.reduceAdd, Nat.reduceLeDiff, Nat.reduceMul, Nat.reduceBEq, Nat.reduceBneDiff, Nat.reduceLT, Nat.reduceSub]
 refine callQ_self ?_ (famExpr.afQ a.2 b.2) ?_
 ·first | exact rfl | (simp only [eE_eta]; exact rfl)
 cases e1 : famExpr.q a.2 b.2
 ·simp +contextual -implicitDefEqProofs only [qEquation, bne, Bool.not_true, Bool.not_false, Bool.true_and, Bool.false_and, Bool.and_true, Bool.and_false, eQ, e0, e1, go_sem, eI, eB, ↓reduceIte, Nat.reduceEqDiff, Nat.reduceAdd, Nat.reduceLeDiff, Nat.reduceMul, Nat.reduceBEq, Nat.reduceBneDiff, Nat.reduceLT, Nat.reduceSub]
 ·simp +contextual -implicitDefEqProofs only [qEquation, bne, Bool.not_true, Bool.not_false, Bool.true_and, Bool.false_and, Bool.and_true, Bool.and_false, eQ, e0, e1, go_sem, eI, eB, ↓reduceIte, Nat.reduceEqDiff, Nat.reduceAdd, Nat.reduceLeDiff, Nat.reduceMul, Nat.reduceBEq, Nat.reduceBneDiff, Nat.reduceLT, Nat.reduceSub]
theorem qEquation_refl (m : Eq2) : qEquation m m = true := by simp [qEquation, famExpr.q_refl, famExpr.q_refl]
noncomputable def famEquation : Fam Tryd.prog eQ 13 16 18 := ⟨szEquation, tEquation, qEquation, fitEquation, szEquation_in, szEquation_fit, qEquation_refl, af13, af16, af18⟩
theorem famEquation_t (x) : famEquation.t x = tEquation x := rfl
theorem law (g : Int × Int) (q : Eq2) : AF Tryd.prog 4 [eG g, eQ q] (.own (eB true)) := by
 refine af_of_res res4 mixed rfl fun hbd => ?_
 simp +contextual -implicitDefEqProofs only [rc4, eG, eQ, famEquation_t, tEquation, famExpr_t, tE_k, tE_n, tE_nn, tE_ks, bne_self_eq_false, go_sem, eI, eB, ↓reduceIte, Nat.reduceEqDiff, Nat.reduceAdd, Nat.reduceLeDiff, Nat.reduceMul, Nat.reduceBEq, Nat.reduceBneDiff, Nat.reduceLT, Nat.reduceSub]
 refine callQ_self (ds := [eQ q, eI 1048576]) ?_ (famEquation.afS q 1048576 (by omega) (by omega)) ?_
 ·simp only [eG, eQ, famEquation_t, tEquation, famExpr_t, tE_k, tE_n, tE_nn, tE_ks, bne_self_eq_false]; exact rfl
 simp +contextual -implicitDefEqProofs only [eG, eQ, famEquation_t, tEquation, famExpr_t, tE_k, tE_n, tE_nn, tE_ks, bne_self_eq_false, go_sem, eI, eB, ↓reduceIte, Nat.reduceEqDiff, Nat.reduceAdd, Nat.reduceLeDiff, Nat.reduceMul, Nat.reduceBEq, Nat.reduceBneDiff, Nat.reduceLT, Nat.reduceSub]
 have sb0 := famEquation.s_in q 1048576 (by omega) (by omega)
 refine fun hs0 => ?_
 have hf0 := famEquation.s_fit q 1048576 (by omega) (by omega) (by omega)
 refine callQ_self (ds := [eG g]) ?_ (af15 g) ?_
 ·simp only [eG, eQ, famEquation_t, tEquation, famExpr_t, tE_k, tE_n, tE_nn, tE_ks, bne_self_eq_false]; exact rfl
 simp +contextual -implicitDefEqProofs only [eT, eG, eQ, famEquation_t, tEquation, famExpr_t, tE_k, tE_n, tE_nn, tE_ks, bne_self_eq_false, go_sem, eI, eB, ↓reduceIte, Nat.reduceEqDiff, Nat.reduceAdd, Nat.reduceLeDiff, Nat.reduceMul, Nat.reduceBEq, Nat.reduceBneDiff, Nat.reduceLT, Nat.reduceSub]
 refine callQ_self (ds := [eQ q]) ?_ (famEquation.afT q hf0) ?_
 ·simp only [eG, eQ, famEquation_t, tEquation, famExpr_t, tE_k, tE_n, tE_nn, tE_ks, bne_self_eq_false]; exact rfl
 simp +contextual -implicitDefEqProofs only [eT, eG, eQ, famEquation_t, tEquation, famExpr_t, tE_k, tE_n, tE_nn, tE_ks, bne_self_eq_false, go_sem, eI, eB, ↓reduceIte, Nat.reduceEqDiff, Nat.reduceAdd, Nat.reduceLeDiff, Nat.reduceMul, Nat.reduceBEq, Nat.reduceBneDiff, Nat.reduceLT, Nat.reduceSub]
 have hsp := af14 g (famEquation.t q)
 have him := af17 g (famEquation.t q)
 generalize txtQ g (famEquation.t q) = tx at hsp him
 refine callQ_self (ds := [eG g, eQ (famEquation.t q)]) ?_ (hsp) ?_
 ·simp only [eG, eQ, famEquation_t, tEquation, famExpr_t, tE_k, tE_n, tE_nn, tE_ks, bne_self_eq_false]; exact rfl
 simp +contextual -implicitDefEqProofs only [eT, eG, eQ, famEquation_t, tEquation, famExpr_t, tE_k, tE_n, tE_nn, tE_ks, bne_self_eq_false, go_sem, eI, eB, ↓reduceIte, Nat.reduceEqDiff, Nat.reduceAdd, Nat.reduceLeDiff, Nat.reduceMul, Nat.reduceBEq, Nat.reduceBneDiff, Nat.reduceLT, Nat.reduceSub]
 refine callQ_self (ds := [eQ q]) ?_ (famEquation.afT q hf0) ?_
 ·simp only [eG, eQ, famEquation_t, tEquation, famExpr_t, tE_k, tE_n, tE_nn, tE_ks, bne_self_eq_false]; exact rfl
 simp +contextual -implicitDefEqProofs only [eT, eG, eQ, famEquation_t, tEquation, famExpr_t, tE_k, tE_n, tE_nn, tE_ks, bne_self_eq_false, go_sem, eI, eB, ↓reduceIte, Nat.reduceEqDiff, Nat.reduceAdd, Nat.reduceLeDiff, Nat.reduceMul, Nat.reduceBEq, Nat.reduceBneDiff, Nat.reduceLT, Nat.reduceSub]
 refine callQ_self (ds := [eG g]) ?_ (af15 g) ?_
 ·simp only [eG, eQ, famEquation_t, tEquation, famExpr_t, tE_k, tE_n, tE_nn, tE_ks, bne_self_eq_false]; exact rfl
 simp +contextual -implicitDefEqProofs only [eT, eG, eQ, famEquation_t, tEquation, famExpr_t, tE_k, tE_n, tE_nn, tE_ks, bne_self_eq_false, go_sem, eI, eB, ↓reduceIte, Nat.reduceEqDiff, Nat.reduceAdd, Nat.reduceLeDiff, Nat.reduceMul, Nat.reduceBEq, Nat.reduceBneDiff, Nat.reduceLT, Nat.reduceSub]
 refine callQ_self (ds := [eG g, eQ (famEquation.t q)]) ?_ (him) ?_
 ·simp only [eG, eQ, famEquation_t, tEquation, famExpr_t, tE_k, tE_n, tE_nn, tE_ks, bne_self_eq_false]; exact rfl
 simp +contextual -implicitDefEqProofs only [eT, beq_self_eq_true, eG, eQ, famEquation_t, tEquation, famExpr_t, tE_k, tE_n, tE_nn, tE_ks, bne_self_eq_false, go_sem, eI, eB, ↓reduceIte, Nat.reduceEqDiff, Nat.reduceAdd, Nat.reduceLeDiff, Nat.reduceMul, Nat.reduceBEq, Nat.reduceBneDiff, Nat.reduceLT, Nat.reduceSub]
 refine callQ_self (ds := [eQ q]) ?_ (famEquation.afT q hf0) ?_
 ·simp only [eG, eQ, famEquation_t, tEquation, famExpr_t, tE_k, tE_n, tE_nn, tE_ks, bne_self_eq_false]; exact rfl
 simp +contextual -implicitDefEqProofs only [eT, eG, eQ, famEquation_t, tEquation, famExpr_t, tE_k, tE_n, tE_nn, tE_ks, bne_self_eq_false, go_sem, eI, eB, ↓reduceIte, Nat.reduceEqDiff, Nat.reduceAdd, Nat.reduceLeDiff, Nat.reduceMul, Nat.reduceBEq, Nat.reduceBneDiff, Nat.reduceLT, Nat.reduceSub]
 refine callQ_self (ds := [eQ (famEquation.t q), eQ (famEquation.t q)]) ?_ (famEquation.afQ (famEquation.t q) (famEquation.t q)) ?_
 ·simp only [eG, eQ, famEquation_t, tEquation, famExpr_t, tE_k, tE_n, tE_nn, tE_ks, bne_self_eq_false]; exact rfl
 simp +contextual -implicitDefEqProofs only [famEquation.q_refl, Bool.not_true, eT, eG, eQ, famEquation_t, tEquation, famExpr_t, tE_k, tE_n, tE_nn, tE_ks, bne_self_eq_false, go_sem, eI, eB, ↓reduceIte, Nat.reduceEqDiff, Nat.reduceAdd, Nat.reduceLeDiff, Nat.reduceMul, Nat.reduceBEq, Nat.reduceBneDiff, Nat.reduceLT, Nat.reduceSub]
end Go.Ax
