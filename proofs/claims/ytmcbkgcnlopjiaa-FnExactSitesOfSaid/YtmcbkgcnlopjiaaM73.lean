/- Contracts of functions of the seat, proved over the engine. No condition. -/
import Derived.WalkKit
import Derived.Lib.Walk
import Derived.Below
import Derived.Test.YtmcbkgcnlopjiaaXxE
import Derived.Test.YtmcbkgcnlopjiaaXxC
import Derived.Test.YtmcbkgcnlopjiaaXxB
import Derived.Test.YtmcbkgcnlopjiaaChecked
set_option linter.unusedSimpArgs false
set_option linter.unusedVariables false
set_option linter.unnecessarySimpa false
namespace Go.Ax
set_option linter.unusedSimpArgs false
open Go.Proofs
theorem mixed : Try.prog.follows .mixedOrders = true := by kernel_rfl
theorem res65 : resF Try.prog 65 = some (27, cSzC 25 3 true, [.t 4]) := by kernel_rfl
theorem res25 : resF Try.prog 25 = some (12, k_szExpr 65, [.t 4]) := by kernel_rfl
theorem res34 : resF Try.prog 34 = some (27, cSzC 6 6 true, [.t 4]) := by kernel_rfl
theorem res6 : resF Try.prog 6 = some (18, k_szProg 25 34, [.t 4]) := by kernel_rfl
theorem res8 : resF Try.prog 8 = some (11, k_toSig, [.c 2 2 true]) := by kernel_rfl
theorem af8 : K_toSig Try.prog 8 := a_toSig mixed res8
theorem res71 : resF Try.prog 71 = some (23, cToC 27 3 40 true (.ag [(.sc (.int .i64 0)), (.sc (.int .i64 0)), (.ls (some true) 3 [])]), [.t 2]) := by kernel_rfl
theorem res27 : resF Try.prog 27 = some (15, k_toExpr 71, [.c 2 3 true]) := by kernel_rfl
theorem res38 : resF Try.prog 38 = some (23, cToC 9 6 80 true (.ag [(.sc (.int .i64 0)), (.sc (.int .i64 0)), (.sc (.int .i64 0)), (.sc (.int .i64 0)), (.ls (some true) 3 []), (.ls (some true) 6 [])]), [.t 2]) := by kernel_rfl
theorem res9 : resF Try.prog 9 = some (19, k_toProg 27 38, [.c 2 6 true]) := by kernel_rfl
theorem res36 : resF Try.prog 36 = some (15, k_l00In, [.t 6]) := by kernel_rfl
theorem af36 : K_l00In Try.prog 36 := a_l00In mixed res36
theorem res76 : resF Try.prog 76 = some (11, k_l01Sig 36, [.t 2]) := by kernel_rfl
theorem af76 : K_l01Sig Try.prog 76 := a_l01Sig mixed res76 af36
theorem res77 : resF Try.prog 77 = some (30, k_l06Left 77, [.t 4]) := by kernel_rfl
theorem af77 : K_l06Left Try.prog 77 := a_l06Left mixed res77
theorem res105 : resF Try.prog 105 = some (10, k_l00Max, [.t 4]) := by kernel_rfl
theorem af105 : K_l00Max Try.prog 105 := a_l00Max mixed res105
theorem res78 : resF Try.prog 78 = some (25, k_l06Depth 78 105, [.t 2]) := by kernel_rfl
theorem af78 : K_l06Depth Try.prog 78 := a_l06Depth mixed res78 af105
theorem res112 : resF Try.prog 112 = some (14, k_l06Kids, [.t 2]) := by kernel_rfl
theorem af112 : K_l06Kids Try.prog 112 := a_l06Kids mixed res112
theorem res113 : resF Try.prog 113 = some (13, k_l06Asks, [.t 2]) := by kernel_rfl
theorem af113 : K_l06Asks Try.prog 113 := a_l06Asks mixed res113
theorem res100 : resF Try.prog 100 = some (30, k_l01Left 100, [.t 4]) := by kernel_rfl
theorem af100 : K_l01Left Try.prog 100 := a_l01Left mixed res100
theorem res101 : resF Try.prog 101 = some (25, k_l01Depth 101 105, [.t 2]) := by kernel_rfl
theorem af101 : K_l01Depth Try.prog 101 := a_l01Depth mixed res101 af105
theorem res132 : resF Try.prog 132 = some (15, k_l01Kids, [.t 2]) := by kernel_rfl
theorem af132 : K_l01Kids Try.prog 132 := a_l01Kids mixed res132
theorem res103 : resF Try.prog 103 = some (34, k_l01Condition 103 36, [.t 2]) := by kernel_rfl
theorem af103 : K_l01Condition Try.prog 103 := a_l01Condition mixed res103 af36
theorem res102 : resF Try.prog 102 = some (80, k_l01Tree 102 132 36 103, [.t 4]) := by kernel_rfl
theorem af102 : K_l01Tree Try.prog 102 := a_l01Tree mixed res102 af132 af36 af103
theorem res66 : resF Try.prog 66 = some (22, k_l01Ok 76 100 101 102, [.t 4]) := by kernel_rfl
theorem af66 : K_l01Ok Try.prog 66 := a_l01Ok mixed res66 af76 af100 af101 af102
theorem res114 : resF Try.prog 114 = some (12, k_l06Cond 66 103, [.t 4]) := by kernel_rfl
theorem af114 : K_l06Cond Try.prog 114 := a_l06Cond mixed res114 af66 af103
theorem res115 : resF Try.prog 115 = some (23, k_l06None, [.t 2]) := by kernel_rfl
theorem af115 : K_l06None Try.prog 115 := a_l06None mixed res115
theorem res79 : resF Try.prog 79 = some (93, k_l06Tree 79 112 36 113 114 115, [.t 4]) := by kernel_rfl
theorem af79 : K_l06Tree Try.prog 79 := a_l06Tree mixed res79 af112 af36 af113 af114 af115
theorem res35 : resF Try.prog 35 = some (22, k_l06Ok 76 77 78 79, [.t 4]) := by kernel_rfl
theorem af35 : K_l06Ok Try.prog 35 := a_l06Ok mixed res35 af76 af77 af78 af79
theorem res138 : resF Try.prog 138 = some (11, k_l06Is, [.t 4]) := by kernel_rfl
theorem af138 : K_l06Is Try.prog 138 := a_l06Is mixed res138
theorem res106 : resF Try.prog 106 = some (36, k_l01Own 106, [.c 2 3 true]) := by kernel_rfl
theorem af106 : K_l01Own Try.prog 106 := a_l01Own mixed res106
theorem res144 : resF Try.prog 144 = some (40, k_l06Own 144 106, [.c 2 6 true]) := by kernel_rfl
theorem af144 : K_l06Own Try.prog 144 := a_l06Own mixed res144 af106
theorem res140 : resF Try.prog 140 = some (9, k_l06Seq 144, [.c 4 6 true]) := by kernel_rfl
theorem af140 : K_l06Seq Try.prog 140 := a_l06Seq mixed res140 af144
theorem res141 : resF Try.prog 141 = some (2, k_l06Skip, [.c 0 6 true]) := by kernel_rfl
theorem af141 : K_l06Skip Try.prog 141 := a_l06Skip mixed res141
theorem res139 : resF Try.prog 139 = some (12, k_l06If 106 144, [.c 6 6 true]) := by kernel_rfl
theorem af139 : K_l06If Try.prog 139 := a_l06If mixed res139 af106 af144
end Go.Ax
namespace Go.Proofs
open Go.RowKit Go.Lib
set_option maxHeartbeats 2000000
set_option maxRecDepth 100000
theorem push4_3 {α : Type} (h : Array α) (a b c d : α) : ((((h.push a).push b).push c).push d)[h.size + 1 + 1 + 1]? = some d := by
 have e : (((h.push a).push b).push c).size = h.size + 1 + 1 + 1 := by simp only [Array.size_push]
 rw [← e]
 exact Array.getElem?_push_size
theorem push4_2 {α : Type} (h : Array α) (a b c d : α) : ((((h.push a).push b).push c).push d)[h.size + 1 + 1]? = some c := by
 have e : ((h.push a).push b).size = h.size + 1 + 1 := by simp only [Array.size_push]
 rw [Array.getElem?_push, if_neg (by simp only [Array.size_push]; omega), ← e]
 exact Array.getElem?_push_size
theorem size_alc (w : World) (o : Obj) : (w.alloc o).heap.size = w.heap.size + 1 := by
 show (w.heap.push o).size = _
 simp only [Array.size_push]
theorem walkPair (k : Int) (a1 a2 a3 b1 b2 b3 : Value) (w : World) :
  Calls Try.prog 142 #[.int .i64 k, .agg #[a1, a2, a3], .agg #[b1, b2, b3]] w fun e w' => (∃ b t, e = .returned (.agg #[.int .i64 k, .int .i64 0, .slice (some ⟨b, 0, none⟩) 2 2]) ∧ w.heap.size ≤ b ∧ w'.heap[b]? = some (.cells #[a1, a2, a3, b1, b2, b3] t (0, 0))) ∧ Below w.heap.size w w' := by
 have mixed : Try.prog.follows .mixedOrders = true := by kernel_rfl
 go_enter Try.func142, Try.ntmps142
 go_wp2
 refine bodyPost_ret (results_cell_row rfl _ _ (w.heap.size + 1 + 1) 38 #[.int .i64 k, .int .i64 0, .slice (some ⟨w.heap.size + 1 + 1 + 1, 0, none⟩) 2 2] (0, 0) _ rfl ?_ Try.underlying38 rfl (by kernel_rfl)) rfl ?_
 ·exact push4_2 w.heap _ _ _ _
 ·refine ⟨⟨w.heap.size + 1 + 1 + 1, 38, rfl, by omega, ?_⟩, ?_⟩
  ·exact push4_3 w.heap _ _ _ _
  ·exact ((((Below.refl _ w).alloc (Nat.le_refl _) _).alloc (by simp only [size_alc]; omega) _).alloc (by simp only [size_alc]; omega) _).alloc (by simp only [size_alc]; omega) _
end Go.Proofs
namespace Go.Ax
open Go.Proofs
theorem arr3 (a : Array Value) (h : a.size = 3) : ∃ x y z, a = #[x, y, z] := by
 obtain ⟨l⟩ := a
 match l, h with
 | [x, y, z], _ => exact ⟨x, y, z, rfl⟩
theorem af142 : K_l02Pair Try.prog 142 := by
 refine ⟨⟨Try.f142, Try.func142, by kernel_rfl, by kernel_rfl⟩, fun k a b w ha hb => ?_⟩
 obtain ⟨a1, a2, a3, rfl⟩ := arr3 a ha
 obtain ⟨b1, b2, b3, rfl⟩ := arr3 b hb
 exact walkPair k a1 a2 a3 b1 b2 b3 w
theorem res143 : resF Try.prog 143 = some (9, k_l06While 106 144, [.c 4 6 true]) := by kernel_rfl
theorem af143 : K_l06While Try.prog 143 := a_l06While mixed res143 af106 af144
theorem res133 : resF Try.prog 133 = some (62, k_l01Same 133, [.t 4]) := by kernel_rfl
theorem af133 : K_l01Same Try.prog 133 := a_l01Same mixed res133
theorem res116 : resF Try.prog 116 = some (145, k_l06Loops 138 140 141 139 106 142 143 133 144, [.c 4 6 true, .t 5]) := by kernel_rfl
theorem af116 : K_l06Loops Try.prog 116 := a_l06Loops mixed res116 af138 af140 af141 af139 af106 af142 af143 af133 af144
theorem res145 : resF Try.prog 145 = some (72, k_l06Same 145 133, [.t 4]) := by kernel_rfl
theorem af145 : K_l06Same Try.prog 145 := a_l06Same mixed res145 af133
theorem res146 : resF Try.prog 146 = some (6, k_l06Not 106, [.c 2 3 true]) := by kernel_rfl
theorem af146 : K_l06Not Try.prog 146 := a_l06Not mixed res146 af106
theorem res117 : resF Try.prog 117 = some (130, k_l06Ifs 138 133 145 144 146 139 140, [.c 4 6 true, .t 5]) := by kernel_rfl
theorem af117 : K_l06Ifs Try.prog 117 := a_l06Ifs mixed res117 af138 af133 af145 af144 af146 af139 af140
theorem res118 : resF Try.prog 118 = some (145, k_l06Seqs 138 140 144 139 133, [.c 4 6 true, .t 5]) := by kernel_rfl
theorem af118 : K_l06Seqs Try.prog 118 := a_l06Seqs mixed res118 af138 af140 af144 af139 af133
theorem res80 : resF Try.prog 80 = some (32, k_l06Applied 116 117 118, [.c 4 6 true, .t 5]) := by kernel_rfl
theorem af80 : K_l06Applied Try.prog 80 := a_l06Applied mixed res80 af116 af117 af118
theorem res81 : resF Try.prog 81 = some (6, k_l00Own, [.t 2]) := by kernel_rfl
theorem af81 : K_l00Own Try.prog 81 := a_l00Own mixed res81
theorem res37 : resF Try.prog 37 = some (50, k_l06Sites 37 80 81, []) := by kernel_rfl
theorem af37 : K_l06Sites Try.prog 37 := a_l06Sites mixed res37 af80 af81
theorem res7 : resF Try.prog 7 = some (22, k_spSitesOf 35 36 37, [.t 6, .t 7]) := by kernel_rfl
theorem af7 : K_spSitesOf Try.prog 7 := a_spSitesOf mixed res7 af35 af36 af37
theorem res84 : resF Try.prog 84 = some (15, k_within, [.t 6]) := by kernel_rfl
theorem af84 : K_within Try.prog 84 := a_within mixed res84
theorem res82 : resF Try.prog 82 = some (11, k_validSig 84, [.t 2]) := by kernel_rfl
theorem af82 : K_validSig Try.prog 82 := a_validSig mixed res82 af84
theorem res147 : resF Try.prog 147 = some (17, k_progForm, [.t 2, .t 3]) := by kernel_rfl
theorem af147 : K_progForm Try.prog 147 := a_progForm mixed res147
theorem res134 : resF Try.prog 134 = some (15, k_kidsOf, [.t 2]) := by kernel_rfl
theorem af134 : K_kidsOf Try.prog 134 := a_kidsOf mixed res134
theorem res135 : resF Try.prog 135 = some (25, k_isCondition 135, [.t 2]) := by kernel_rfl
theorem af135 : K_isCondition Try.prog 135 := a_isCondition mixed res135
theorem res108 : resF Try.prog 108 = some (86, k_shaped 108 134 84 135, [.t 8, .t 9]) := by kernel_rfl
theorem af108 : K_shaped Try.prog 108 := a_shaped mixed res108 af134 af84 af135
theorem res73 : resF Try.prog 73 = some (14, k_isExpr 108, [.t 4]) := by kernel_rfl
theorem af73 : K_isExpr Try.prog 73 := a_isExpr mixed res73 af108
theorem res129 : resF Try.prog 129 = some (12, k_imCondOk 73 135, [.t 4]) := by kernel_rfl
theorem af129 : K_imCondOk Try.prog 129 := a_imCondOk mixed res129 af73 af135
theorem res128 : resF Try.prog 128 = some (17, k_isNone, [.t 2]) := by kernel_rfl
theorem af128 : K_isNone Try.prog 128 := a_isNone mixed res128
theorem res119 : resF Try.prog 119 = some (98, k_progFits 119 147 129 128 84, [.t 8, .t 9]) := by kernel_rfl
theorem af119 : K_progFits Try.prog 119 := a_progFits mixed res119 af147 af129 af128 af84
theorem res83 : resF Try.prog 83 = some (14, k_isProg 119, [.t 4]) := by kernel_rfl
theorem af83 : K_isProg Try.prog 83 := a_isProg mixed res83 af119
theorem res39 : resF Try.prog 39 = some (12, k_imValidProg 82 83, [.t 4]) := by kernel_rfl
theorem af39 : K_imValidProg Try.prog 39 := a_imValidProg mixed res39 af82 af83
theorem res40 : resF Try.prog 40 = some (5, k_isRule 84, [.t 2]) := by kernel_rfl
theorem af40 : K_isRule Try.prog 40 := a_isRule mixed res40 af84
theorem res125 : resF Try.prog 125 = some (9, k_imSeq, [.c 4 6 true]) := by kernel_rfl
theorem af125 : K_imSeq Try.prog 125 := a_imSeq mixed res125
theorem res123 : resF Try.prog 123 = some (12, k_imChoose, [.c 6 6 true]) := by kernel_rfl
theorem af123 : K_imChoose Try.prog 123 := a_imChoose mixed res123
theorem res124 : resF Try.prog 124 = some (8, k_treeSh, [.c 4 3 true]) := by kernel_rfl
theorem af124 : K_treeSh Try.prog 124 := a_treeSh mixed res124
theorem res122 : resF Try.prog 122 = some (9, k_imLoop, [.c 4 6 true]) := by kernel_rfl
theorem af122 : K_imLoop Try.prog 122 := a_imLoop mixed res122
theorem res149 : resF Try.prog 149 = some (32, cEfA 3 (.ag [(.sc (.int .i64 0)), (.sc (.int .i64 0)), (.ls (some true) 3 [])]), [.t 6]) := by kernel_rfl
theorem res126 : resF Try.prog 126 = some (24, k_sameExpr 126 149, [.t 4]) := by kernel_rfl
theorem af126 : K_sameExpr Try.prog 126 := a_sameExpr mixed res126 res149
theorem res120 : resF Try.prog 120 = some (119, k_loopRule 125 123 124 122 126, [.c 6 6 true, .t 7]) := by kernel_rfl
theorem af120 : K_loopRule Try.prog 120 := a_loopRule mixed res120 af125 af123 af124 af122 af126
theorem res148 : resF Try.prog 148 = some (32, cEfA 6 (.ag [(.sc (.int .i64 0)), (.sc (.int .i64 0)), (.sc (.int .i64 0)), (.sc (.int .i64 0)), (.ls (some true) 3 []), (.ls (some true) 6 [])]), [.t 6]) := by kernel_rfl
theorem res121 : resF Try.prog 121 = some (31, k_sameProg 121 126 148, [.t 4]) := by kernel_rfl
theorem af121 : K_sameProg Try.prog 121 := a_sameProg mixed res121 af126 res148
theorem res85 : resF Try.prog 85 = some (254, k_rewritten 120 121 122 124 123 125 126, [.c 4 6 true, .t 5]) := by kernel_rfl
theorem af85 : K_rewritten Try.prog 85 := a_rewritten mixed res85 af120 af121 af122 af124 af123 af125 af126
theorem res86 : resF Try.prog 86 = some (8, k_cloneL, [.t 2]) := by kernel_rfl
theorem af86 : K_cloneL Try.prog 86 := a_cloneL mixed res86
theorem res41 : resF Try.prog 41 = some (44, k_sites 41 85 86, [.t 8]) := by kernel_rfl
theorem af41 : K_sites Try.prog 41 := a_sites mixed res41 af85 af86
theorem res10 : resF Try.prog 10 = some (19, k_imSitesOf 39 40 41, [.t 6, .t 7]) := by kernel_rfl
theorem af10 : K_imSitesOf Try.prog 10 := a_imSitesOf mixed res10 af39 af40 af41
theorem res42 : resF Try.prog 42 = some (26, cEqS, [.t 4]) := by kernel_rfl
theorem res11 : resF Try.prog 11 = some (27, cEqC 42 1 false, [.t 4]) := by kernel_rfl
theorem res29 : resF Try.prog 29 = some (27, cEqC 30 3 true, [.t 4]) := by kernel_rfl
theorem res30 : resF Try.prog 30 = some (21, k_eqExpr 29, [.t 4]) := by kernel_rfl
theorem res43 : resF Try.prog 43 = some (27, cEqC 12 6 true, [.t 4]) := by kernel_rfl
theorem res12 : resF Try.prog 12 = some (27, k_eqProg 30 43, [.t 4]) := by kernel_rfl
theorem res46 : resF Try.prog 46 = some (21, cHdI, [.t 4]) := by kernel_rfl
theorem res15 : resF Try.prog 15 = some (21, cHdC 46, [.t 4]) := by kernel_rfl
theorem res32 : resF Try.prog 32 = some (34, k_markExprS 32, [.t 4]) := by kernel_rfl
theorem af32 : K_markExprS Try.prog 32 := a_markExprS mixed res32
theorem res31 : resF Try.prog 31 = some (10, k_markExpr 32, [.t 4]) := by kernel_rfl
theorem af31 : K_markExpr Try.prog 31 := a_markExpr mixed res31 af32
theorem res44 : resF Try.prog 44 = some (58, k_markProgS 44 32, [.t 4]) := by kernel_rfl
theorem af44 : K_markProgS Try.prog 44 := a_markProgS mixed res44 af32
theorem res13 : resF Try.prog 13 = some (14, k_markProg 31 44, [.t 4]) := by kernel_rfl
theorem af13 : K_markProg Try.prog 13 := a_markProg mixed res13 af31 af44
theorem res45 : resF Try.prog 45 = some (19, cMkI, [.t 4]) := by kernel_rfl
theorem res14 : resF Try.prog 14 = some (19, cMkC 45, [.t 4]) := by kernel_rfl

def rc3 : RC := (.seq (.reg false [⟨none, .box 3 2 (.t 0)⟩, ⟨none, .box 4 6 (.t 1)⟩, ⟨none, .mv 6 (.c (.sc (.bool false)))⟩]) ((.seq (.reg false [⟨none, .mv 7 (.c (.sc (.int .i64 1048576)))⟩]) ((.seq (.reg false [⟨none, .ld 18 true 6 (.t 4)⟩, ⟨none, .mv 19 (.t 7)⟩, ⟨none, .call (some 20) 6 [(.t 18), (.t 19)]⟩, ⟨none, .mv 7 (.t 20)⟩]) ((.seq ((.seq (.reg false [⟨none, .mv 21 (.t 7)⟩, ⟨none, .bin 22 .lss (.t 21) (.c (.sc (.int .i64 0)))⟩]) (.cond (.t 22) ((.seq (.reg false [⟨none, .mv 6 (.c (.sc (.bool true)))⟩]) (.ret))) (.skip)))) ((.seq (.reg true [⟨none, .ld 24 true 2 (.t 3)⟩, ⟨none, .call (some 25) 8 [(.t 24)]⟩, ⟨none, .ld 26 true 6 (.t 4)⟩, ⟨none, .call (some 27) 9 [(.t 26)]⟩, ⟨none, .mv 28 (.t 2)⟩, ⟨none, .call (some 29) 7 [(.t 25), (.t 27), (.t 28)]⟩, ⟨none, .mv 23 (.t 29)⟩, ⟨none, .ext 30 (.t 23) 0⟩, ⟨none, .ext 31 (.t 23) 1⟩, ⟨none, .mv 8 (.t 30)⟩, ⟨none, .mv 9 (.t 31)⟩]) ((.seq (.reg false [⟨none, .ld 32 true 6 (.t 4)⟩, ⟨none, .call (some 33) 9 [(.t 32)]⟩, ⟨none, .zer 10 6 (.ag [(.sc (.int .i64 0)), (.sc (.int .i64 0)), (.sc (.int .i64 0)), (.sc (.int .i64 0)), (.ls (some true) 3 []), (.ls (some true) 6 [])])⟩, ⟨none, .st 6 (.t 10) (.t 33)⟩]) ((.seq (.reg true [⟨none, .ld 35 true 2 (.t 3)⟩, ⟨none, .call (some 36) 8 [(.t 35)]⟩, ⟨none, .ld 37 true 6 (.t 10)⟩, ⟨none, .mv 38 (.t 2)⟩, ⟨none, .call (some 39) 10 [(.t 36), (.t 37), (.t 38)]⟩, ⟨none, .mv 34 (.t 39)⟩, ⟨none, .ext 40 (.t 34) 0⟩, ⟨none, .ext 41 (.t 34) 1⟩, ⟨none, .mv 11 (.t 40)⟩, ⟨none, .mv 12 (.t 41)⟩]) ((.seq ((.seq (.reg false [⟨none, .mv 42 (.t 11)⟩, ⟨none, .mv 43 (.t 8)⟩, ⟨none, .call (some 44) 11 [(.t 42), (.t 43)]⟩, ⟨none, .un 45 .not (.t 44)⟩, ⟨none, .mv 46 (.t 45)⟩, ⟨some (46, false), .mv 47 (.t 12)⟩, ⟨some (46, false), .mv 48 (.t 9)⟩, ⟨some (46, false), .bin 49 .neq (.t 47) (.t 48)⟩, ⟨none, .pick 50 (.t 46) (.c (.sc (.bool true))) (.t 49)⟩]) (.cond (.t 50) ((.seq (.reg false [⟨none, .mv 6 (.c (.sc (.bool false)))⟩]) (.ret))) (.skip)))) ((.seq ((.seq (.reg true [⟨none, .ld 51 true 6 (.t 10)⟩, ⟨none, .ld 52 true 6 (.t 4)⟩, ⟨none, .call (some 53) 9 [(.t 52)]⟩, ⟨none, .call (some 54) 12 [(.t 51), (.t 53)]⟩, ⟨none, .un 55 .not (.t 54)⟩]) (.cond (.t 55) ((.seq (.reg false [⟨none, .mv 6 (.c (.sc (.bool false)))⟩]) (.ret))) (.skip)))) ((.seq (.reg false [⟨none, .mv 13 (.c (.sc (.int .i64 1)))⟩]) ((.seq (.reg false [⟨none, .ld 56 true 6 (.t 10)⟩, ⟨none, .mv 57 (.t 13)⟩, ⟨none, .mcl 58 13 (.t 56) (.t 57)⟩, ⟨none, .mv 13 (.t 58)⟩]) ((.seq ((.seq (.reg false [⟨none, .mv 59 (.t 13)⟩, ⟨none, .bin 60 .lss (.t 59) (.c (.sc (.int .i64 0)))⟩, ⟨none, .mv 61 (.t 60)⟩, ⟨some (61, false), .mv 62 (.t 11)⟩, ⟨some (61, false), .mv 63 (.t 8)⟩, ⟨some (61, false), .call (some 64) 11 [(.t 62), (.t 63)]⟩, ⟨some (61, false), .un 65 .not (.t 64)⟩, ⟨none, .pick 66 (.t 61) (.c (.sc (.bool true))) (.t 65)⟩, ⟨none, .mv 67 (.t 66)⟩, ⟨some (67, false), .mv 68 (.t 12)⟩, ⟨some (67, false), .mv 69 (.t 9)⟩, ⟨some (67, false), .bin 70 .neq (.t 68) (.t 69)⟩, ⟨none, .pick 71 (.t 67) (.c (.sc (.bool true))) (.t 70)⟩]) (.cond (.t 71) ((.seq (.reg false [⟨none, .mv 6 (.c (.sc (.bool false)))⟩]) (.ret))) (.skip)))) ((.seq (.reg false [⟨none, .mv 14 (.c (.sc (.int .i64 1)))⟩]) ((.seq (.reg false [⟨none, .mv 72 (.t 11)⟩, ⟨none, .mv 73 (.t 14)⟩, ⟨none, .mcl 74 14 (.t 72) (.t 73)⟩, ⟨none, .mv 14 (.t 74)⟩]) ((.seq (.reg false [⟨none, .mv 15 (.c (.sc (.int .i64 1)))⟩]) ((.seq (.reg false [⟨none, .mv 75 (.t 11)⟩, ⟨none, .mv 76 (.t 15)⟩, ⟨none, .call (some 77) 15 [(.t 75), (.t 76)]⟩, ⟨none, .mv 15 (.t 77)⟩]) ((.seq ((.seq (.reg false [⟨none, .mv 78 (.t 15)⟩, ⟨none, .bin 79 .lss (.t 78) (.c (.sc (.int .i64 0)))⟩]) (.cond (.t 79) ((.seq (.reg false [⟨none, .mv 6 (.c (.sc (.bool false)))⟩]) (.ret))) (.skip)))) ((.seq ((.seq (.reg false [⟨none, .mv 80 (.t 15)⟩, ⟨none, .mv 81 (.t 14)⟩, ⟨none, .bin 82 .neq (.t 80) (.t 81)⟩]) (.cond (.t 82) ((.seq (.reg false [⟨none, .mv 6 (.c (.sc (.bool false)))⟩]) (.ret))) (.skip)))) ((.seq (.reg true [⟨none, .ld 84 true 2 (.t 3)⟩, ⟨none, .call (some 85) 8 [(.t 84)]⟩, ⟨none, .ld 86 true 6 (.t 4)⟩, ⟨none, .call (some 87) 9 [(.t 86)]⟩, ⟨none, .mv 88 (.t 2)⟩, ⟨none, .call (some 89) 10 [(.t 85), (.t 87), (.t 88)]⟩, ⟨none, .mv 83 (.t 89)⟩, ⟨none, .ext 90 (.t 83) 0⟩, ⟨none, .ext 91 (.t 83) 1⟩, ⟨none, .mv 16 (.t 90)⟩, ⟨none, .mv 17 (.t 91)⟩]) ((.seq ((.seq (.reg false [⟨none, .mv 92 (.t 16)⟩, ⟨none, .mv 93 (.t 8)⟩, ⟨none, .call (some 94) 11 [(.t 92), (.t 93)]⟩, ⟨none, .un 95 .not (.t 94)⟩, ⟨none, .mv 96 (.t 95)⟩, ⟨some (96, false), .mv 97 (.t 17)⟩, ⟨some (96, false), .mv 98 (.t 9)⟩, ⟨some (96, false), .bin 99 .neq (.t 97) (.t 98)⟩, ⟨none, .pick 100 (.t 96) (.c (.sc (.bool true))) (.t 99)⟩]) (.cond (.t 100) ((.seq (.reg false [⟨none, .mv 6 (.c (.sc (.bool false)))⟩]) (.ret))) (.skip)))) ((.seq (.reg false [⟨none, .mv 15 (.c (.sc (.int .i64 1)))⟩]) ((.seq (.reg false [⟨none, .mv 101 (.t 11)⟩, ⟨none, .mv 102 (.t 15)⟩, ⟨none, .call (some 103) 15 [(.t 101), (.t 102)]⟩, ⟨none, .mv 15 (.t 103)⟩]) ((.seq ((.seq (.reg false [⟨none, .mv 104 (.t 15)⟩, ⟨none, .bin 105 .lss (.t 104) (.c (.sc (.int .i64 0)))⟩]) (.cond (.t 105) ((.seq (.reg false [⟨none, .mv 6 (.c (.sc (.bool false)))⟩]) (.ret))) (.skip)))) ((.seq ((.seq (.reg false [⟨none, .mv 106 (.t 15)⟩, ⟨none, .mv 107 (.t 14)⟩, ⟨none, .bin 108 .neq (.t 106) (.t 107)⟩]) (.cond (.t 108) ((.seq (.reg false [⟨none, .mv 6 (.c (.sc (.bool false)))⟩]) (.ret))) (.skip)))) ((.seq (.reg false [⟨none, .mv 6 (.c (.sc (.bool true)))⟩]) (.ret))))))))))))))))))))))))))))))))))))))))))))))))))
theorem res3 : resF Try.prog 3 = some (109, rc3, [.t 6]) := by kernel_rfl
noncomputable def famExpr : Fam Try.prog eE 25 27 30 := famE mixed res25 res65 res27 res71 res30 res29
theorem famExpr_t (x) : famExpr.t x = tE x := rfl
noncomputable def famProg : Fam Try.prog eP 6 9 12 := famPg mixed famExpr ⟨rfl, rfl, rfl, rfl⟩ res6 res34 res9 res38 res12 res43
theorem famProg_t (x) : famProg.t x = tP x := rfl
noncomputable def hfIS := hrI mixed res45 res46
noncomputable def hfInt64SS := hrC mixed (encS eI 1) hfIS res14 res15
def qSS (a b : SL (SL Int)) : Bool := eqL (fun x y : SL Int => eqL (fun i j => i == j) x.2 y.2) a.2 b.2
theorem qSS_refl {n n' : Option Bool} {l : List (SL Int)} : qSS (n, l) (n', l) = true := eqL_refl fun x _ => eqL_refl fun i _ => by simp
theorem afSS (a b : SL (SL Int)) : AF Try.prog 11 [eS 1 (eS 1 eI) a, eS 1 (eS 1 eI) b] (.own (eB (qSS a b))) := af_eqC mixed (encS eI 1) res11 _ a b fun x _ y _ => af_eqS mixed res42 x y
theorem fitE_tE (e : Ex) : fitE e → fitE (tE e) := by
 refine Ex.ind (p := fun e => fitE e → fitE (tE e)) (fun k n nn ks ih hf => ?_) e
 rw [fitE_mk] at hf
 rw [tE_mk, fitE_mk]
 refine ⟨by simpa using hf.1, fun x hx => ?_⟩
 obtain ⟨y, hy, rfl⟩ := List.mem_map.1 hx
 exact ih y hy (hf.2 y hy)
theorem fitP_tP (e : Pg) : fitP e → fitP (tP e) := by
 refine Pg.ind (p := fun e => fitP e → fitP (tP e)) (fun k n c nn ks ih hf => ?_) e
 rw [fitP_mk] at hf
 rw [tP_mk, fitP_mk]
 refine ⟨fitE_tE c hf.1, by simpa using hf.2.1, fun x hx => ?_⟩
 obtain ⟨y, hy, rfl⟩ := List.mem_map.1 hx
 exact ih y hy (hf.2.2 y hy)
theorem cntP_tP : ∀ e : Pg, cntP (tP e) = cntP e :=
 Pg.ind fun k n c nn ks ih => by
  rw [tP_mk, cntP_mk, cntP_mk, cntE0_tE, cntL_congr ih]
theorem cntP_eq (e : Pg) : cntP e = 4 + cntP0 e := by
 obtain ⟨k, n, c, nn, ks⟩ := e
 rw [cntP_mk, cntP0_mk]; omega
theorem cntP0_tP (e : Pg) : cntP0 (tP e) = cntP0 e := by
 have := cntP_tP e
 rw [cntP_eq, cntP_eq] at this
 omega
theorem cntE_size : ∀ e : Ex, cntE e = 2 * sizeE e :=
 Ex.ind fun k n nn ks ih => by
  rw [cntE_mk, sizeE_mk]
  have : ∀ {l : List Ex}, (∀ x ∈ l, cntE x = 2 * sizeE x) → cntL cntE l = 2 * sizeEs l := by
   intro l
   induction l with
   | nil => intro _; rfl
   | cons x l il => intro h; simp only [cntL, sizeEs, h x (by simp), il fun y hy => h y (by simp [hy])]; omega
  rw [this ih]; omega
theorem szP_cnt : ∀ (e : Pg) (l : Int), 0 ≤ l → l ≤ 1048576 → 0 ≤ szP e l → (cntP0 e : Int) ≤ 4 * (l - szP e l) :=
 Pg.ind fun k n c nn ks ih l h1 h2 h => by
  have key : ∀ (ks : List Pg), (∀ e ∈ ks, ∀ l : Int, 0 ≤ l → l ≤ 1048576 → 0 ≤ szP e l → (cntP0 e : Int) ≤ 4 * (l - szP e l)) → ∀ m : Int, 0 ≤ m → m ≤ 1048576 → 0 ≤ szL szP ks m → (cntL cntP ks : Int) ≤ 4 * (m - szL szP ks m) + 4 * ks.length := by
   intro ks
   induction ks with
   | nil => intro _ m _ _ _; simp [cntL, szL]
   | cons x ks ihk =>
    intro hx m m1 m2 m3
    have hm : ¬ m < 0 := by omega
    simp only [szL, if_neg hm] at m3 ⊢
    have hin := szP_in x m m1 m2
    have h0 : 0 ≤ szP x m := by
     refine Classical.byContradiction fun hn => ?_
     rw [szL_neg (by omega)] at m3
     omega
    have e1 := hx x (by simp) m m1 m2 h0
    have e2 := ihk (fun e he => hx e (by simp [he])) (szP x m) h0 (by omega) m3
    simp only [cntL, cntP_eq, lK]
    push_cast
    omega
  rw [szP_mk] at h ⊢
  obtain ⟨p1, p2⟩ := nx_fit h
  have q1 := szE_cnt c l h1 h2 p1
  have q2 := szE_in c l h1 h2
  rw [nx_pos (show ¬ szE c l < 0 by omega)]
  obtain ⟨p3, p4⟩ := nx_fit p2
  rw [nx_pos (by omega)]
  simp only [szS] at p3 ⊢
  have hc : 0 ≤ cut (szE c l - ks.length) := by
   refine Classical.byContradiction fun hn => ?_
   rw [szL_neg (by omega)] at p3
   omega
  obtain ⟨c1, c2⟩ := cut_nonneg hc
  have := key ks ih (cut (szE c l - ks.length)) hc (by omega) p3
  rw [cntP0_mk]
  push_cast
  omega

def slL (L : List (List Int)) : List (SL Int) := L.map fun l => (some false, l)
theorem slL_map {L : List (List Int)} : (slL L).map (eS 1 eI) = L.map eL := by simp [slL, eL, eS]
theorem stP_path {r : Int} : ∀ (p : Pg) (path : List Int), ∀ l ∈ stP r p path, l.length ≤ path.length + depthP p :=
 Pg.ind fun k n c nn ks ih path l hl => by
  have key : ∀ (es : List Pg), (∀ e ∈ es, ∀ path, ∀ l ∈ stP r e path, l.length ≤ path.length + depthP e) → ∀ i, ∀ l ∈ stPs r es path i, l.length ≤ path.length + 1 + depthPs es := by
   intro es
   induction es with
   | nil => intro _ i l hl; simp [stPs] at hl
   | cons e es ihe =>
    intro h i l hl
    simp only [stPs, List.mem_append] at hl
    simp only [depthPs]
    rcases hl with hl | hl
    ·have := h e (by simp) _ l hl
     simp only [lP, lK, lZ] at this
     omega
    ·have := ihe (fun x hx => h x (by simp [hx])) _ l hl
     omega
  rw [depthP_mk]
  rw [stP_mk, List.mem_append] at hl
  rcases hl with hl | hl
  ·split at hl
   ·simp only [List.mem_singleton] at hl
    subst hl
    omega
   ·cases hl
  ·have := key ks ih 0 l hl
   omega
theorem sitesR_cnt (g : Int × Int) (p : Pg) (r : Int) : cntL (fun x : SL Int => x.2.length) (slL (sitesR g p r).1) ≤ 1000000 := by
 unfold sitesR
 split
 ·next h =>
  obtain ⟨z1, z2, _⟩ := okP_sz (Bool.and_eq_true _ _ ▸ h).2
  split
  ·have h1 := stP_len (r := r) p []
   have h2 := cntL_bd (cnt := fun x : SL Int => x.2.length) (l := slL (stP r p [])) (c := 20) (fun x hx => by
    unfold slL at hx
    obtain ⟨l, hl, rfl⟩ := List.mem_map.1 hx
    have := stP_path p [] l hl
    simp only [lZ] at this
    show l.length ≤ 20
    omega)
   have h3 : (slL (stP r p [])).length = (stP r p []).length := by simp [slL]
   rw [h3] at h2
   have h4 : (stP r p []).length * 20 ≤ 60 * 20 := Nat.mul_le_mul_right _ (by omega)
   show cntL (fun x : SL Int => x.2.length) (slL (stP r p [])) ≤ 1000000
   omega
  ·exact Nat.zero_le _
 ·exact Nat.zero_le _
theorem law (g : Int × Int) (q : Pg) (r : Int) : AF Try.prog 3 [eG g, eP q, eI r] (.own (eB true)) := by
 obtain ⟨qk, qn, qck, qcn, qcnn, qcks, qnn, qks, rfl⟩ := Pg.ex q
 rw [eP_mk2]
 refine af_of_res res3 mixed rfl fun hbd => ?_
 simp +contextual -implicitDefEqProofs only [rc3, eG, eI, eB, go_sem]
 refine callQ_self (ds := [eP (Pg.mk qk qn (.mk qck qcn qcnn qcks) qnn qks), eI 1048576]) ?_ (famProg.afS (Pg.mk qk qn (.mk qck qcn qcnn qcks) qnn qks) 1048576 (by omega) (by omega)) ?_
 ·simp only [eP_mk2, eI]; exact rfl
 simp +contextual -implicitDefEqProofs only [eI, go_sem]
 have sb0 := famProg.s_in (Pg.mk qk qn (.mk qck qcn qcnn qcks) qnn qks) 1048576 (by omega) (by omega)
 refine fun hs0 => ?_
 have hf0 := famProg.s_fit (Pg.mk qk qn (.mk qck qcn qcnn qcks) qnn qks) 1048576 (by omega) (by omega) (by omega)
 refine callQ_self (ds := [eG g]) ?_ (af8 g) ?_
 ·simp only [eG, eI]; exact rfl
 simp +contextual -implicitDefEqProofs only [eG, eI, go_sem]
 have hto := famProg.afT (Pg.mk qk qn (.mk qck qcn qcnn qcks) qnn qks) hf0
 have hfT : fitP (famProg.t (Pg.mk qk qn (.mk qck qcn qcnn qcks) qnn qks)) := fitP_tP _ hf0
 have hsp := af7 g (famProg.t (Pg.mk qk qn (.mk qck qcn qcnn qcks) qnn qks)) r hfT
 have him := af10 g (famProg.t (Pg.mk qk qn (.mk qck qcn qcnn qcks) qnn qks)) r
 have hqP := famProg.afQ (famProg.t (Pg.mk qk qn (.mk qck qcn qcnn qcks) qnn qks)) (famProg.t (Pg.mk qk qn (.mk qck qcn qcnn qcks) qnn qks))
 rw [famProg.q_refl] at hqP
 have hc0 : (cntP0 (famProg.t (Pg.mk qk qn (.mk qck qcn qcnn qcks) qnn qks)) : Int) ≤ 8388608 := by
  have h := szP_cnt (Pg.mk qk qn (.mk qck qcn qcnn qcks) qnn qks) 1048576 (by omega) (by omega) (Int.not_lt.1 hs0)
  have e : cntP0 (famProg.t (Pg.mk qk qn (.mk qck qcn qcnn qcks) qnn qks)) = cntP0 (Pg.mk qk qn (.mk qck qcn qcnn qcks) qnn qks) := cntP0_tP _
  have h' : 0 ≤ szP (Pg.mk qk qn (.mk qck qcn qcnn qcks) qnn qks) 1048576 := Int.not_lt.1 hs0
  rw [e]; omega
 have hM0 := af13 (famProg.t (Pg.mk qk qn (.mk qck qcn qcnn qcks) qnn qks)) 1 (by omega) (by unfold maxK; omega)
 have hcR := sitesR_cnt g (famProg.t (Pg.mk qk qn (.mk qck qcn qcnn qcks) qnn qks)) r
 generalize sitesR g (famProg.t (Pg.mk qk qn (.mk qck qcn qcnn qcks) qnn qks)) r = z at hsp him hcR
 generalize mkP0 (famProg.t (Pg.mk qk qn (.mk qck qcn qcnn qcks) qnn qks)) 1 = mP at hM0
 generalize cntP0 (famProg.t (Pg.mk qk qn (.mk qck qcn qcnn qcks) qnn qks)) = cP at hM0 hc0
 generalize famProg.t (Pg.mk qk qn (.mk qck qcn qcnn qcks) qnn qks) = wP at hto hsp him hqP hM0
 obtain ⟨wk, wn, wck, wcn, wcnn, wcks, wnn, wks, rfl⟩ := Pg.ex wP
 obtain ⟨mk_, mn, mck, mcn, mcnn, mcks, mnn, mks, rfl⟩ := Pg.ex mP
 obtain ⟨z, c⟩ := z
 simp only at hsp him hcR
 unfold lD at him
 rw [show (z.map fun l => D.ls (some false) 1 (l.map eI)) = (slL z).map (eS 1 eI) from slL_map.symm] at hsp
 rw [← slL_map] at him
 generalize nnL2 (some true) z = n2 at him
 generalize slL z = l at hsp him hcR
 have hqR := afSS (n2, l) (some false, l)
 rw [qSS_refl] at hqR
 have hM1 := hfInt64SS.afM (n2, l) 1 (by omega) (by have : hfInt64SS.cnt (n2, l) = cntL (fun x : SL Int => x.2.length) l := rfl; unfold maxK; omega)
 have hH1 := hfInt64SS.afH (n2, l) 1 (by omega) (by have : hfInt64SS.cnt (n2, l) = cntL (fun x : SL Int => x.2.length) l := rfl; unfold maxK; omega)
 have hcc : hfInt64SS.cnt (n2, l) ≤ 1000000 := hcR
 generalize hfInt64SS.cnt (n2, l) = cR at hM1 hH1 hcc
 generalize hfInt64SS.mrk (n2, l) 1 = mR at hM1 hH1
 have hk0 : ¬ (1 + (cP : Int) < 0) := by omega
 have hk1 : ¬ (1 + (cR : Int) < 0) := by omega
 simp only [eP_mk2, eS] at hto hsp him hqP hqR hM0 hM1 hH1
 refine callQ_self ?_ (hto) ?_
 ·exact rfl
 simp +contextual -implicitDefEqProofs only [go_sem]
 refine callQ_self ?_ (hsp) ?_
 ·exact rfl
 simp +contextual -implicitDefEqProofs only [eI, go_sem]
 refine callQ_self ?_ (hto) ?_
 ·exact rfl
 simp +contextual -implicitDefEqProofs only [go_sem]
 refine callQ_self (ds := [eG g]) ?_ (af8 g) ?_
 ·simp only [eG, eI]; exact rfl
 simp +contextual -implicitDefEqProofs only [eG, eI, go_sem]
 refine callQ_self ?_ (him) ?_
 ·exact rfl
 simp +contextual -implicitDefEqProofs only [eI, go_sem]
 refine callQ_self ?_ (hqR) ?_
 ·exact rfl
 simp +contextual -implicitDefEqProofs only [eB, go_sem]
 refine callQ_self ?_ (hto) ?_
 ·exact rfl
 simp +contextual -implicitDefEqProofs only [go_sem]
 refine callQ_self ?_ (hqP) ?_
 ·exact rfl
 simp +contextual -implicitDefEqProofs only [eB, go_sem]
 refine ⟨eP (Pg.mk mk_ mn (.mk mck mcn mcnn mcks) mnn mks), 1 + cP, (by rw [eP_mk2]; exact hM0), ⟨rfl, fun _ => rfl, rfl⟩, ?_⟩
 simp +contextual -implicitDefEqProofs only [hk0, D.put, eP_mk2, go_sem]
 refine callQ_self ?_ (hqR) ?_
 ·exact rfl
 simp +contextual -implicitDefEqProofs only [eB, go_sem]
 refine ⟨eS 1 (eS 1 eI) mR, 1 + cR, hM1, rfl, ?_⟩
 simp +contextual -implicitDefEqProofs only [eS, go_sem]
 refine callQ_self ?_ (hH1) ?_
 ·exact rfl
 simp +contextual -implicitDefEqProofs only [hk1, eI, go_sem]
 refine callQ_self (ds := [eG g]) ?_ (af8 g) ?_
 ·simp only [eG, eI]; exact rfl
 simp +contextual -implicitDefEqProofs only [eG, eI, go_sem]
 refine callQ_self ?_ (hto) ?_
 ·exact rfl
 simp +contextual -implicitDefEqProofs only [go_sem]
 refine callQ_self ?_ (him) ?_
 ·exact rfl
 simp +contextual -implicitDefEqProofs only [eI, go_sem]
 refine callQ_self ?_ (hqR) ?_
 ·exact rfl
 simp +contextual -implicitDefEqProofs only [eB, go_sem]
 refine callQ_self ?_ (hH1) ?_
 ·exact rfl
 simp +contextual -implicitDefEqProofs only [hk1, eI, go_sem]
end Go.Ax
