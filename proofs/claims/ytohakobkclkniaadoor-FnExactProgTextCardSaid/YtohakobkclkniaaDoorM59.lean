/- Contracts of functions of the seat, proved over the engine. No condition. -/
import Derived.Test.YtohakobkclkniaaDoorX84
import Derived.Test.YtohakobkclkniaaDoorX2
import Derived.Test.YtohakobkclkniaaDoorX82
import Derived.Test.YtohakobkclkniaaDoorAxO
import Derived.Test.YtohakobkclkniaaDoorChecked
set_option linter.unusedSimpArgs false
set_option linter.unusedVariables false
set_option linter.unnecessarySimpa false
namespace Go.Ax
open Go.Proofs Go.Shelf
set_option linter.unusedSimpArgs false
theorem mixed : Tryd.prog.follows .mixedOrders = true := by kernel_rfl
theorem res84 : resF Tryd.prog 84 = some (27, cSzC 45 3 true, [.t 4]) := by kernel_rfl
theorem res45 : resF Tryd.prog 45 = some (12, k_szExpr 84, [.t 4]) := by kernel_rfl
theorem res63 : resF Tryd.prog 63 = some (27, cSzC 24 6 true, [.t 4]) := by kernel_rfl
theorem res24 : resF Tryd.prog 24 = some (18, k_szProg 45 63, [.t 4]) := by kernel_rfl
theorem res15 : resF Tryd.prog 15 = some (11, k_toSig, [.c 2 2 true]) := by kernel_rfl
theorem af15 : K_toSig Tryd.prog 15 := a_toSig mixed res15
theorem res86 : resF Tryd.prog 86 = some (23, cToC 48 3 40 true (.ag [(.sc (.int .i64 0)), (.sc (.int .i64 0)), (.ls (some true) 3 [])]), [.t 2]) := by kernel_rfl
theorem res48 : resF Tryd.prog 48 = some (15, k_toExpr 86, [.c 2 3 true]) := by kernel_rfl
theorem res66 : resF Tryd.prog 66 = some (23, cToC 26 6 80 true (.ag [(.sc (.int .i64 0)), (.sc (.int .i64 0)), (.sc (.int .i64 0)), (.sc (.int .i64 0)), (.ls (some true) 3 []), (.ls (some true) 6 [])]), [.t 2]) := by kernel_rfl
theorem res26 : resF Tryd.prog 26 = some (19, k_toProg 48 66, [.c 2 6 true]) := by kernel_rfl
theorem res91 : resF Tryd.prog 91 = some (15, k_l00In, [.t 6]) := by kernel_rfl
theorem af91 : K_l00In Tryd.prog 91 := a_l00In mixed res91
theorem res90 : resF Tryd.prog 90 = some (11, k_l01Sig 91, [.t 2]) := by kernel_rfl
theorem af90 : K_l01Sig Tryd.prog 90 := a_l01Sig mixed res90 af91
theorem res101 : resF Tryd.prog 101 = some (30, k_l06Left 101, [.t 4]) := by kernel_rfl
theorem af101 : K_l06Left Tryd.prog 101 := a_l06Left mixed res101
theorem res123 : resF Tryd.prog 123 = some (10, k_l00Max, [.t 4]) := by kernel_rfl
theorem af123 : K_l00Max Tryd.prog 123 := a_l00Max mixed res123
theorem res102 : resF Tryd.prog 102 = some (25, k_l06Depth 102 123, [.t 2]) := by kernel_rfl
theorem af102 : K_l06Depth Tryd.prog 102 := a_l06Depth mixed res102 af123
theorem res124 : resF Tryd.prog 124 = some (14, k_l06Kids, [.t 2]) := by kernel_rfl
theorem af124 : K_l06Kids Tryd.prog 124 := a_l06Kids mixed res124
theorem res125 : resF Tryd.prog 125 = some (13, k_l06Asks, [.t 2]) := by kernel_rfl
theorem af125 : K_l06Asks Tryd.prog 125 := a_l06Asks mixed res125
theorem res113 : resF Tryd.prog 113 = some (30, k_l01Left 113, [.t 4]) := by kernel_rfl
theorem af113 : K_l01Left Tryd.prog 113 := a_l01Left mixed res113
theorem res114 : resF Tryd.prog 114 = some (25, k_l01Depth 114 123, [.t 2]) := by kernel_rfl
theorem af114 : K_l01Depth Tryd.prog 114 := a_l01Depth mixed res114 af123
theorem res136 : resF Tryd.prog 136 = some (15, k_l01Kids, [.t 2]) := by kernel_rfl
theorem af136 : K_l01Kids Tryd.prog 136 := a_l01Kids mixed res136
theorem res137 : resF Tryd.prog 137 = some (34, k_l01Condition 137 91, [.t 2]) := by kernel_rfl
theorem af137 : K_l01Condition Tryd.prog 137 := a_l01Condition mixed res137 af91
theorem res115 : resF Tryd.prog 115 = some (80, k_l01Tree 115 136 91 137, [.t 4]) := by kernel_rfl
theorem af115 : K_l01Tree Tryd.prog 115 := a_l01Tree mixed res115 af136 af91 af137
theorem res85 : resF Tryd.prog 85 = some (22, k_l01Ok 90 113 114 115, [.t 4]) := by kernel_rfl
theorem af85 : K_l01Ok Tryd.prog 85 := a_l01Ok mixed res85 af90 af113 af114 af115
theorem res118 : resF Tryd.prog 118 = some (12, k_l06Cond 85 137, [.t 4]) := by kernel_rfl
theorem af118 : K_l06Cond Tryd.prog 118 := a_l06Cond mixed res118 af85 af137
theorem res117 : resF Tryd.prog 117 = some (23, k_l06None, [.t 2]) := by kernel_rfl
theorem af117 : K_l06None Tryd.prog 117 := a_l06None mixed res117
theorem res103 : resF Tryd.prog 103 = some (93, k_l06Tree 103 124 91 125 118 117, [.t 4]) := by kernel_rfl
theorem af103 : K_l06Tree Tryd.prog 103 := a_l06Tree mixed res103 af124 af91 af125 af118 af117
theorem res64 : resF Tryd.prog 64 = some (22, k_l06Ok 90 101 102 103, [.t 4]) := by kernel_rfl
theorem af64 : K_l06Ok Tryd.prog 64 := a_l06Ok mixed res64 af90 af101 af102 af103
theorem res54 : resF Tryd.prog 54 = some (20, k_spDecimal 54, [.t 2]) := by kernel_rfl
theorem af54 : K_spDecimal Tryd.prog 54 := a_spDecimal mixed res54
theorem res55 : resF Tryd.prog 55 = some (79, k_l01Text 55 54, [.t 2]) := by kernel_rfl
theorem af55 : K_l01Text Tryd.prog 55 := a_l01Text mixed res55 af54
theorem res65 : resF Tryd.prog 65 = some (82, k_l06Text 65 54 55, [.t 2]) := by kernel_rfl
theorem af65 : K_l06Text Tryd.prog 65 := a_l06Text mixed res65 af54 af55
theorem res25 : resF Tryd.prog 25 = some (9, k_spProgText 64 65, [.t 4]) := by kernel_rfl
theorem af25 : K_spProgText Tryd.prog 25 := a_spProgText mixed res25 af64 af65
theorem res95 : resF Tryd.prog 95 = some (15, k_within, [.t 6]) := by kernel_rfl
theorem af95 : K_within Tryd.prog 95 := a_within mixed res95
theorem res94 : resF Tryd.prog 94 = some (11, k_validSig 95, [.t 2]) := by kernel_rfl
theorem af94 : K_validSig Tryd.prog 94 := a_validSig mixed res94 af95
theorem res144 : resF Tryd.prog 144 = some (17, k_progForm, [.t 2, .t 3]) := by kernel_rfl
theorem af144 : K_progForm Tryd.prog 144 := a_progForm mixed res144
theorem res152 : resF Tryd.prog 152 = some (15, k_kidsOf, [.t 2]) := by kernel_rfl
theorem af152 : K_kidsOf Tryd.prog 152 := a_kidsOf mixed res152
theorem res139 : resF Tryd.prog 139 = some (25, k_isCondition 139, [.t 2]) := by kernel_rfl
theorem af139 : K_isCondition Tryd.prog 139 := a_isCondition mixed res139
theorem res138 : resF Tryd.prog 138 = some (86, k_shaped 138 152 95 139, [.t 8, .t 9]) := by kernel_rfl
theorem af138 : K_shaped Tryd.prog 138 := a_shaped mixed res138 af152 af95 af139
theorem res116 : resF Tryd.prog 116 = some (14, k_isExpr 138, [.t 4]) := by kernel_rfl
theorem af116 : K_isExpr Tryd.prog 116 := a_isExpr mixed res116 af138
theorem res120 : resF Tryd.prog 120 = some (12, k_imCondOk 116 139, [.t 4]) := by kernel_rfl
theorem af120 : K_imCondOk Tryd.prog 120 := a_imCondOk mixed res120 af116 af139
theorem res119 : resF Tryd.prog 119 = some (17, k_isNone, [.t 2]) := by kernel_rfl
theorem af119 : K_isNone Tryd.prog 119 := a_isNone mixed res119
theorem res126 : resF Tryd.prog 126 = some (98, k_progFits 126 144 120 119 95, [.t 8, .t 9]) := by kernel_rfl
theorem af126 : K_progFits Tryd.prog 126 := a_progFits mixed res126 af144 af120 af119 af95
theorem res104 : resF Tryd.prog 104 = some (14, k_isProg 126, [.t 4]) := by kernel_rfl
theorem af104 : K_isProg Tryd.prog 104 := a_isProg mixed res104 af126
theorem res67 : resF Tryd.prog 67 = some (12, k_imValidProg 94 104, [.t 4]) := by kernel_rfl
theorem af67 : K_imValidProg Tryd.prog 67 := a_imValidProg mixed res67 af94 af104
theorem res140 : resF Tryd.prog 140 = some (15, k_small, [.t 2]) := by kernel_rfl
theorem af140 : K_small Tryd.prog 140 := a_small mixed res140
theorem res122 : resF Tryd.prog 122 = some (54, k_formatInt 140 141 142 143 (othF Tryd.prog 122 0) (othF Tryd.prog 122 1) (othF Tryd.prog 122 2) (othF Tryd.prog 122 3), [.t 4]) := by kernel_rfl
theorem af122 : K_formatInt Tryd.prog 122 := a_formatInt mixed res122 af140
theorem res98 : resF Tryd.prog 98 = some (8, k_formatIntS 122, [.t 4]) := by kernel_rfl
theorem af98 : K_formatIntS Tryd.prog 98 := a_formatIntS mixed res98 af122
theorem res59 : resF Tryd.prog 59 = some (5, k_imDecimal 98, [.t 2]) := by kernel_rfl
theorem af59 : K_imDecimal Tryd.prog 59 := a_imDecimal mixed res59 af98
def sbRen : Go.Shelf.Ren := ⟨fun | 166 => 58 | 240 => 97 | 276 => 121 | 169 => 61 | n => n, fun | 0 => 0 | 3 => 3 | 4 => 4 | 5 => 5 | 9 => 9 | 20 => 20 | 37 => 115 | 70 => 114 | 72 => 117 | 75 => 119 | 80 => 123 | 127 => 163 | 164 => 191 | n => n, fun | n => n⟩
theorem sbLay166 : Lays.n166 Tryd.prog sbRen := { mixed := by kernel_rfl, f166 := Tryd.func58.trans (congrArg some (by kernel_rfl)), f240 := Tryd.func97.trans (congrArg some (by kernel_rfl)), f276 := Tryd.func121.trans (congrArg some (by kernel_rfl)), t0 := Tryd.underlying0, a0 := Tryd.isAgg0, z0 := Tryd.sizeOf0, v0 := Tryd.zeroValue0, t3 := Tryd.underlying3, a3 := Tryd.isAgg3, z3 := Tryd.sizeOf3, v3 := Tryd.zeroValue3, t4 := Tryd.underlying4, a4 := Tryd.isAgg4, z4 := Tryd.sizeOf4, v4 := Tryd.zeroValue4, t9 := Tryd.underlying9, a9 := Tryd.isAgg9, z9 := Tryd.sizeOf9, v9 := Tryd.zeroValue9, t20 := Tryd.underlying20, a20 := Tryd.isAgg20, z20 := Tryd.sizeOf20, v20 := Tryd.zeroValue20, t37 := Tryd.underlying115, a37 := Tryd.isAgg115, z37 := Tryd.sizeOf115, v37 := Tryd.zeroValue115, t70 := Tryd.underlying114, a70 := Tryd.isAgg114, z70 := Tryd.sizeOf114, v70 := Tryd.zeroValue114, t72 := Tryd.underlying117, a72 := Tryd.isAgg117, z72 := Tryd.sizeOf117, v72 := Tryd.zeroValue117, t75 := Tryd.underlying119, a75 := Tryd.isAgg119, z75 := Tryd.sizeOf119, v75 := Tryd.zeroValue119, t164 := Tryd.underlying191, a164 := Tryd.isAgg191, z164 := Tryd.sizeOf191, v164 := Tryd.zeroValue191 }
theorem sbLay169 : Lays.n169 Tryd.prog sbRen := { mixed := by kernel_rfl, f169 := Tryd.func61.trans (congrArg some (by kernel_rfl)), t0 := Tryd.underlying0, a0 := Tryd.isAgg0, z0 := Tryd.sizeOf0, v0 := Tryd.zeroValue0, t3 := Tryd.underlying3, a3 := Tryd.isAgg3, z3 := Tryd.sizeOf3, v3 := Tryd.zeroValue3, t9 := Tryd.underlying9, a9 := Tryd.isAgg9, z9 := Tryd.sizeOf9, v9 := Tryd.zeroValue9, t37 := Tryd.underlying115, a37 := Tryd.isAgg115, z37 := Tryd.sizeOf115, v37 := Tryd.zeroValue115, t70 := Tryd.underlying114, a70 := Tryd.isAgg114, z70 := Tryd.sizeOf114, v70 := Tryd.zeroValue114, t72 := Tryd.underlying117, a72 := Tryd.isAgg117, z72 := Tryd.sizeOf117, v72 := Tryd.zeroValue117, t127 := Tryd.underlying163, a127 := Tryd.isAgg163, z127 := Tryd.sizeOf163, v127 := Tryd.zeroValue163 }
theorem sbX : Builder.Extra Tryd.prog sbRen := { sizeBuilder := by kernel_rfl, liesBuilder := by kernel_rfl, t5 := Tryd.underlying5, a5 := Tryd.isAgg5, z5 := Tryd.sizeOf5, v5 := Tryd.zeroValue5, infoByte := by kernel_rfl, cellsByte := by kernel_rfl, sizeByte := by kernel_rfl, neB5 := by decide }
theorem sbC58 : Callable Tryd.prog 58 := ⟨Tryd.f58, Tryd.func58, by kernel_rfl, by kernel_rfl⟩
theorem sbC61 : Callable Tryd.prog 61 := ⟨Tryd.f61, Tryd.func61, by kernel_rfl, by kernel_rfl⟩
theorem sbE1 : sbRen.f 166 = 58 := rfl
theorem sbE2 : sbRen.f 169 = 61 := rfl
theorem sbE3 : sbRen.t 72 = 117 := rfl
theorem sbE4 : sbRen.t 5 = 5 := rfl
theorem af58 : K_wrS Tryd.prog 58 := fun s hs => by
 have h := wrS_ok sbLay166 sbX (by rw [sbE1]; exact sbC58) s hs
 rw [sbE1, sbE3, sbE4] at h
 exact h
theorem res99 : resF Tryd.prog 99 = some (76, k_writeExpr 99 59 58, []) := by kernel_rfl
theorem af99 : K_writeExpr Tryd.prog 99 := a_writeExpr mixed res99 af59 af58
theorem af61 : K_bdS Tryd.prog 61 := by
 have h := bdS_ok sbLay169 sbX (by rw [sbE2]; exact sbC61)
 rw [sbE2, sbE3, sbE4] at h
 exact h
theorem res60 : resF Tryd.prog 60 = some (8, k_textOf 99 61, [.t 2]) := by kernel_rfl
theorem af60 : K_textOf Tryd.prog 60 := a_textOf mixed res60 af99 af61
theorem res68 : resF Tryd.prog 68 = some (70, k_progText 68 59 60, [.t 2]) := by kernel_rfl
theorem af68 : K_progText Tryd.prog 68 := a_progText mixed res68 af59 af60
theorem res27 : resF Tryd.prog 27 = some (11, k_imProgText 67 68, [.t 4]) := by kernel_rfl
theorem af27 : K_imProgText Tryd.prog 27 := a_imProgText mixed res27 af67 af68
theorem res88 : resF Tryd.prog 88 = some (27, cEqC 51 3 true, [.t 4]) := by kernel_rfl
theorem res51 : resF Tryd.prog 51 = some (21, k_eqExpr 88, [.t 4]) := by kernel_rfl
theorem res69 : resF Tryd.prog 69 = some (27, cEqC 28 6 true, [.t 4]) := by kernel_rfl
theorem res28 : resF Tryd.prog 28 = some (27, k_eqProg 51 69, [.t 4]) := by kernel_rfl

def rc6 : RC := (.seq (.reg false [⟨none, .box 2 2 (.t 0)⟩, ⟨none, .box 3 6 (.t 1)⟩, ⟨none, .mv 4 (.c (.sc (.bool false)))⟩]) ((.seq (.reg false [⟨none, .mv 5 (.c (.sc (.int .i64 1048576)))⟩]) ((.seq (.reg false [⟨none, .ld 9 true 6 (.t 3)⟩, ⟨none, .mv 10 (.t 5)⟩, ⟨none, .call (some 11) 24 [(.t 9), (.t 10)]⟩, ⟨none, .mv 5 (.t 11)⟩]) ((.seq ((.seq (.reg false [⟨none, .mv 12 (.t 5)⟩, ⟨none, .bin 13 .lss (.t 12) (.c (.sc (.int .i64 0)))⟩]) (.cond (.t 13) ((.seq (.reg false [⟨none, .mv 4 (.c (.sc (.bool true)))⟩]) (.ret))) (.skip)))) ((.seq (.reg true [⟨none, .ld 14 true 2 (.t 2)⟩, ⟨none, .call (some 15) 15 [(.t 14)]⟩, ⟨none, .ld 16 true 6 (.t 3)⟩, ⟨none, .call (some 17) 26 [(.t 16)]⟩, ⟨none, .call (some 18) 25 [(.t 15), (.t 17)]⟩, ⟨none, .mv 6 (.t 18)⟩]) ((.seq (.reg false [⟨none, .ld 19 true 6 (.t 3)⟩, ⟨none, .call (some 20) 26 [(.t 19)]⟩, ⟨none, .zer 7 6 (.ag [(.sc (.int .i64 0)), (.sc (.int .i64 0)), (.sc (.int .i64 0)), (.sc (.int .i64 0)), (.ls (some true) 3 []), (.ls (some true) 6 [])])⟩, ⟨none, .st 6 (.t 7) (.t 20)⟩]) ((.seq (.reg true [⟨none, .ld 21 true 2 (.t 2)⟩, ⟨none, .call (some 22) 15 [(.t 21)]⟩, ⟨none, .ld 23 true 6 (.t 7)⟩, ⟨none, .call (some 24) 27 [(.t 22), (.t 23)]⟩, ⟨none, .mv 8 (.t 24)⟩]) ((.seq ((.seq (.reg false [⟨none, .mv 25 (.t 8)⟩, ⟨none, .mv 26 (.t 6)⟩, ⟨none, .bin 27 .neq (.t 25) (.t 26)⟩]) (.cond (.t 27) ((.seq (.reg false [⟨none, .mv 4 (.c (.sc (.bool false)))⟩]) (.ret))) (.skip)))) ((.seq ((.seq (.reg true [⟨none, .ld 28 true 6 (.t 7)⟩, ⟨none, .ld 29 true 6 (.t 3)⟩, ⟨none, .call (some 30) 26 [(.t 29)]⟩, ⟨none, .call (some 31) 28 [(.t 28), (.t 30)]⟩, ⟨none, .un 32 .not (.t 31)⟩]) (.cond (.t 32) ((.seq (.reg false [⟨none, .mv 4 (.c (.sc (.bool false)))⟩]) (.ret))) (.skip)))) ((.seq (.reg false [⟨none, .mv 4 (.c (.sc (.bool true)))⟩]) (.ret))))))))))))))))))))
theorem res6 : resF Tryd.prog 6 = some (33, rc6, [.t 4]) := by kernel_rfl
noncomputable def famExpr : Fam Tryd.prog eE 45 48 51 := famE mixed res45 res84 res48 res86 res51 res88
theorem famExpr_t (x) : famExpr.t x = tE x := rfl
noncomputable def famProg : Fam Tryd.prog eP 24 26 28 := famPg mixed famExpr ⟨rfl, rfl, rfl, rfl⟩ res24 res63 res26 res66 res28 res69
theorem famProg_t (x) : famProg.t x = tP x := rfl
theorem tP_nn (e : Pg) : (tP e).nn = some false := by cases e; rw [tP_mk]; rfl
theorem tP_c (e : Pg) : (tP e).c = tE e.c := by cases e; rw [tP_mk]; rfl
theorem law (g : Int × Int) (q : Pg) : AF Tryd.prog 6 [eG g, eP q] (.own (eB true)) := by
 rw [eP_eta q]
 refine af_of_res res6 mixed rfl fun hbd => ?_
 simp +contextual -implicitDefEqProofs only [rc6, eG, eP_eta, famProg_t, tP_nn, tP_c, tE_k, tE_n, tE_nn, tE_ks, bne_self_eq_false, go_sem, eI, eB, ↓reduceIte, Nat.reduceEqDiff, Nat.reduceAdd, Nat.reduceLeDiff, Nat.reduceMul, Nat.reduceBEq, Nat.reduceBneDiff, Nat.reduceLT, Nat.reduceSub]
 refine callQ_self (ds := [eP q, eI 1048576]) ?_ (famProg.afS q 1048576 (by omega) (by omega)) ?_
 ·simp only [eG, eP_eta, famProg_t, tP_nn, tP_c, tE_k, tE_n, tE_nn, tE_ks, bne_self_eq_false]; exact rfl
 simp +contextual -implicitDefEqProofs only [eG, eP_eta, famProg_t, tP_nn, tP_c, tE_k, tE_n, tE_nn, tE_ks, bne_self_eq_false, go_sem, eI, eB, ↓reduceIte, Nat.reduceEqDiff, Nat.reduceAdd, Nat.reduceLeDiff, Nat.reduceMul, Nat.reduceBEq, Nat.reduceBneDiff, Nat.reduceLT, Nat.reduceSub]
 have sb0 := famProg.s_in q 1048576 (by omega) (by omega)
 refine fun hs0 => ?_
 have hf0 := famProg.s_fit q 1048576 (by omega) (by omega) (by omega)
 refine callQ_self (ds := [eG g]) ?_ (af15 g) ?_
 ·simp only [eG, eP_eta, famProg_t, tP_nn, tP_c, tE_k, tE_n, tE_nn, tE_ks, bne_self_eq_false]; exact rfl
 simp +contextual -implicitDefEqProofs only [eT, eG, eP_eta, famProg_t, tP_nn, tP_c, tE_k, tE_n, tE_nn, tE_ks, bne_self_eq_false, go_sem, eI, eB, ↓reduceIte, Nat.reduceEqDiff, Nat.reduceAdd, Nat.reduceLeDiff, Nat.reduceMul, Nat.reduceBEq, Nat.reduceBneDiff, Nat.reduceLT, Nat.reduceSub]
 refine callQ_self (ds := [eP q]) ?_ (famProg.afT q hf0) ?_
 ·simp only [eG, eP_eta, famProg_t, tP_nn, tP_c, tE_k, tE_n, tE_nn, tE_ks, bne_self_eq_false]; exact rfl
 simp +contextual -implicitDefEqProofs only [eT, eG, eP_eta, famProg_t, tP_nn, tP_c, tE_k, tE_n, tE_nn, tE_ks, bne_self_eq_false, go_sem, eI, eB, ↓reduceIte, Nat.reduceEqDiff, Nat.reduceAdd, Nat.reduceLeDiff, Nat.reduceMul, Nat.reduceBEq, Nat.reduceBneDiff, Nat.reduceLT, Nat.reduceSub]
 have hsp := af25 g (famProg.t q)
 have him := af27 g (famProg.t q)
 generalize txtPg g (famProg.t q) = tx at hsp him
 refine callQ_self (ds := [eG g, eP (famProg.t q)]) ?_ (hsp) ?_
 ·simp only [eG, eP_eta, famProg_t, tP_nn, tP_c, tE_k, tE_n, tE_nn, tE_ks, bne_self_eq_false]; exact rfl
 simp +contextual -implicitDefEqProofs only [eT, eG, eP_eta, famProg_t, tP_nn, tP_c, tE_k, tE_n, tE_nn, tE_ks, bne_self_eq_false, go_sem, eI, eB, ↓reduceIte, Nat.reduceEqDiff, Nat.reduceAdd, Nat.reduceLeDiff, Nat.reduceMul, Nat.reduceBEq, Nat.reduceBneDiff, Nat.reduceLT, Nat.reduceSub]
 refine callQ_self (ds := [eP q]) ?_ (famProg.afT q hf0) ?_
 ·simp only [eG, eP_eta, famProg_t, tP_nn, tP_c, tE_k, tE_n, tE_nn, tE_ks, bne_self_eq_false]; exact rfl
 simp +contextual -implicitDefEqProofs only [eT, eG, eP_eta, famProg_t, tP_nn, tP_c, tE_k, tE_n, tE_nn, tE_ks, bne_self_eq_false, go_sem, eI, eB, ↓reduceIte, Nat.reduceEqDiff, Nat.reduceAdd, Nat.reduceLeDiff, Nat.reduceMul, Nat.reduceBEq, Nat.reduceBneDiff, Nat.reduceLT, Nat.reduceSub]
 refine callQ_self (ds := [eG g]) ?_ (af15 g) ?_
 ·simp only [eG, eP_eta, famProg_t, tP_nn, tP_c, tE_k, tE_n, tE_nn, tE_ks, bne_self_eq_false]; exact rfl
 simp +contextual -implicitDefEqProofs only [eT, eG, eP_eta, famProg_t, tP_nn, tP_c, tE_k, tE_n, tE_nn, tE_ks, bne_self_eq_false, go_sem, eI, eB, ↓reduceIte, Nat.reduceEqDiff, Nat.reduceAdd, Nat.reduceLeDiff, Nat.reduceMul, Nat.reduceBEq, Nat.reduceBneDiff, Nat.reduceLT, Nat.reduceSub]
 refine callQ_self (ds := [eG g, eP (famProg.t q)]) ?_ (him) ?_
 ·simp only [eG, eP_eta, famProg_t, tP_nn, tP_c, tE_k, tE_n, tE_nn, tE_ks, bne_self_eq_false]; exact rfl
 simp +contextual -implicitDefEqProofs only [eT, beq_self_eq_true, eG, eP_eta, famProg_t, tP_nn, tP_c, tE_k, tE_n, tE_nn, tE_ks, bne_self_eq_false, go_sem, eI, eB, ↓reduceIte, Nat.reduceEqDiff, Nat.reduceAdd, Nat.reduceLeDiff, Nat.reduceMul, Nat.reduceBEq, Nat.reduceBneDiff, Nat.reduceLT, Nat.reduceSub]
 refine callQ_self (ds := [eP q]) ?_ (famProg.afT q hf0) ?_
 ·simp only [eG, eP_eta, famProg_t, tP_nn, tP_c, tE_k, tE_n, tE_nn, tE_ks, bne_self_eq_false]; exact rfl
 simp +contextual -implicitDefEqProofs only [eT, eG, eP_eta, famProg_t, tP_nn, tP_c, tE_k, tE_n, tE_nn, tE_ks, bne_self_eq_false, go_sem, eI, eB, ↓reduceIte, Nat.reduceEqDiff, Nat.reduceAdd, Nat.reduceLeDiff, Nat.reduceMul, Nat.reduceBEq, Nat.reduceBneDiff, Nat.reduceLT, Nat.reduceSub]
 refine callQ_self (ds := [eP (famProg.t q), eP (famProg.t q)]) ?_ (famProg.afQ (famProg.t q) (famProg.t q)) ?_
 ·simp only [eG, eP_eta, famProg_t, tP_nn, tP_c, tE_k, tE_n, tE_nn, tE_ks, bne_self_eq_false]; exact rfl
 simp +contextual -implicitDefEqProofs only [famProg.q_refl, Bool.not_true, eT, eG, eP_eta, famProg_t, tP_nn, tP_c, tE_k, tE_n, tE_nn, tE_ks, bne_self_eq_false, go_sem, eI, eB, ↓reduceIte, Nat.reduceEqDiff, Nat.reduceAdd, Nat.reduceLeDiff, Nat.reduceMul, Nat.reduceBEq, Nat.reduceBneDiff, Nat.reduceLT, Nat.reduceSub]
end Go.Ax
