/- Contracts of functions of the seat, proved over the engine. No condition. -/
import Derived.Test.YtjnghfepojipiaaX97
import Derived.Test.YtjnghfepojipiaaX23
import Derived.Test.YtjnghfepojipiaaChecked
set_option linter.unusedSimpArgs false
set_option linter.unusedVariables false
set_option linter.unnecessarySimpa false
namespace Go.Ax
open Go.Proofs
set_option linter.unusedSimpArgs false
theorem mixed : Try.prog.follows .mixedOrders = true := by kernel_rfl
theorem res41 : resF Try.prog 41 = some (27, cSzC 40 3 true, [.t 4]) := by kernel_rfl
theorem res40 : resF Try.prog 40 = some (12, k_szExpr 41, [.t 4]) := by kernel_rfl
theorem res26 : resF Try.prog 26 = some (11, k_toSig, [.c 2 2 true]) := by kernel_rfl
theorem af26 : K_toSig Try.prog 26 := a_toSig mixed res26
theorem res44 : resF Try.prog 44 = some (23, cToC 43 3 40 true (.ag [(.sc (.int .i64 0)), (.sc (.int .i64 0)), (.ls (some true) 3 [])]), [.t 2]) := by kernel_rfl
theorem res43 : resF Try.prog 43 = some (15, k_toExpr 44, [.c 2 3 true]) := by kernel_rfl
theorem res17 : resF Try.prog 17 = some (22, cToS 8 (.sc (.int .i64 0)), [.t 2]) := by kernel_rfl
theorem res109 : resF Try.prog 109 = some (15, k_l00In, [.t 6]) := by kernel_rfl
theorem af109 : K_l00In Try.prog 109 := a_l00In mixed res109
theorem res130 : resF Try.prog 130 = some (11, k_l01Sig 109, [.t 2]) := by kernel_rfl
theorem af130 : K_l01Sig Try.prog 130 := a_l01Sig mixed res130 af109
theorem res221 : resF Try.prog 221 = some (30, k_l01Left 221, [.t 4]) := by kernel_rfl
theorem af221 : K_l01Left Try.prog 221 := a_l01Left mixed res221
theorem res224 : resF Try.prog 224 = some (10, k_l00Max, [.t 4]) := by kernel_rfl
theorem af224 : K_l00Max Try.prog 224 := a_l00Max mixed res224
theorem res222 : resF Try.prog 222 = some (25, k_l01Depth 222 224, [.t 2]) := by kernel_rfl
theorem af222 : K_l01Depth Try.prog 222 := a_l01Depth mixed res222 af224
theorem res275 : resF Try.prog 275 = some (15, k_l01Kids, [.t 2]) := by kernel_rfl
theorem af275 : K_l01Kids Try.prog 275 := a_l01Kids mixed res275
theorem res157 : resF Try.prog 157 = some (34, k_l01Condition 157 109, [.t 2]) := by kernel_rfl
theorem af157 : K_l01Condition Try.prog 157 := a_l01Condition mixed res157 af109
theorem res223 : resF Try.prog 223 = some (80, k_l01Tree 223 275 109 157, [.t 4]) := by kernel_rfl
theorem af223 : K_l01Tree Try.prog 223 := a_l01Tree mixed res223 af275 af109 af157
theorem res131 : resF Try.prog 131 = some (22, k_l01Ok 130 221 222 223, [.t 4]) := by kernel_rfl
theorem af131 : K_l01Ok Try.prog 131 := a_l01Ok mixed res131 af130 af221 af222 af223
theorem res217 : resF Try.prog 217 = some (36, k_l01Own 217, [.c 2 3 true]) := by kernel_rfl
theorem af217 : K_l01Own Try.prog 217 := a_l01Own mixed res217
theorem res229 : resF Try.prog 229 = some (48, k_l04At 109, [.t 4, .t 5, .t 6]) := by kernel_rfl
theorem af229 : K_l04AtL Try.prog 229 := a_l04AtL mixed res229 af109
theorem res146 : resF Try.prog 146 = some (41, k_spL04Replace 217 157 131 229, [.c 8 3 true, .t 9]) := by kernel_rfl
theorem af146 : K_spL04Replace Try.prog 146 := a_spL04Replace mixed res146 af217 af157 af131 af229
theorem res51 : resF Try.prog 51 = some (24, k_spReplaceAt 131 146, [.c 8 3 true, .t 9]) := by kernel_rfl
theorem af51 : K_spReplaceAt Try.prog 51 := a_spReplaceAt mixed res51 af131 af146
theorem res276 : resF Try.prog 276 = some (15, k_kidsOf, [.t 2]) := by kernel_rfl
theorem af276 : K_kidsOf Try.prog 276 := a_kidsOf mixed res276
theorem res115 : resF Try.prog 115 = some (15, k_within, [.t 6]) := by kernel_rfl
theorem af115 : K_within Try.prog 115 := a_within mixed res115
theorem res227 : resF Try.prog 227 = some (25, k_isCondition 227, [.t 2]) := by kernel_rfl
theorem af227 : K_isCondition Try.prog 227 := a_isCondition mixed res227
theorem res226 : resF Try.prog 226 = some (86, k_shaped 226 276 115 227, [.t 8, .t 9]) := by kernel_rfl
theorem af226 : K_shaped Try.prog 226 := a_shaped mixed res226 af276 af115 af227
theorem res139 : resF Try.prog 139 = some (14, k_isExpr 226, [.t 4]) := by kernel_rfl
theorem af139 : K_isExpr Try.prog 139 := a_isExpr mixed res139 af226
theorem res138 : resF Try.prog 138 = some (11, k_validSig 115, [.t 2]) := by kernel_rfl
theorem af138 : K_validSig Try.prog 138 := a_validSig mixed res138 af115
theorem res141 : resF Try.prog 141 = some (20, k_validExprs 139 138, [.t 4]) := by kernel_rfl
theorem af141 : K_validExprs Try.prog 141 := a_validExprs mixed res141 af139 af138
theorem res154 : resF Try.prog 154 = some (37, k_nodeAt 115, [.c 4 3 true, .t 5, .t 6]) := by kernel_rfl
theorem af154 : K_nodeAt Try.prog 154 := a_nodeAt mixed res154 af115
theorem res155 : resF Try.prog 155 = some (27, k_copyExpr 155, [.c 2 3 true]) := by kernel_rfl
theorem af155 : K_copyExpr Try.prog 155 := a_copyExpr mixed res155
theorem res230 : resF Try.prog 230 = some (52, k_replaced 230 155, [.c 6 3 true]) := by kernel_rfl
theorem af230 : K_replaced Try.prog 230 := a_replaced mixed res230 af155
theorem res147 : resF Try.prog 147 = some (41, k_imReplaceAt 154 227 230 139, [.c 8 3 true, .t 9]) := by kernel_rfl
theorem af147 : K_imReplaceAt Try.prog 147 := a_imReplaceAt mixed res147 af154 af227 af230 af139
theorem res52 : resF Try.prog 52 = some (24, k_imReplace 141 147, [.c 8 3 true, .t 9]) := by kernel_rfl
theorem af52 : K_imReplace Try.prog 52 := a_imReplace mixed res52 af141 af147
theorem res47 : resF Try.prog 47 = some (27, cEqC 46 3 true, [.t 4]) := by kernel_rfl
theorem res46 : resF Try.prog 46 = some (21, k_eqExpr 47, [.t 4]) := by kernel_rfl
theorem res20 : resF Try.prog 20 = some (26, cEqS, [.t 4]) := by kernel_rfl
theorem res145 : resF Try.prog 145 = some (40, k_heldExprS 145, [.t 4]) := by kernel_rfl
theorem af145 : K_heldExprS Try.prog 145 := a_heldExprS mixed res145
theorem res50 : resF Try.prog 50 = some (12, k_heldExpr 145, [.t 4]) := by kernel_rfl
theorem af50 : K_heldExpr Try.prog 50 := a_heldExpr mixed res50 af145
theorem res49 : resF Try.prog 49 = some (34, k_markExprS 49, [.t 4]) := by kernel_rfl
theorem af49 : K_markExprS Try.prog 49 := a_markExprS mixed res49
theorem res48 : resF Try.prog 48 = some (10, k_markExpr 49, [.t 4]) := by kernel_rfl
theorem af48 : K_markExpr Try.prog 48 := a_markExpr mixed res48 af49
theorem res22 : resF Try.prog 22 = some (19, cMkI, [.t 4]) := by kernel_rfl

def rc7 : RC := (.seq (.reg false [⟨none, .box 4 2 (.t 0)⟩, ⟨none, .box 5 3 (.t 1)⟩, ⟨none, .box 7 3 (.t 3)⟩, ⟨none, .mv 8 (.c (.sc (.bool false)))⟩]) ((.seq ((.seq (.reg false [⟨none, .mv 22 (.t 2)⟩, ⟨none, .len 23 (.t 22)⟩, ⟨none, .bin 24 .gtr (.t 23) (.c (.sc (.int .i64 1048576)))⟩]) (.cond (.t 24) ((.seq (.reg false [⟨none, .mv 8 (.c (.sc (.bool true)))⟩]) (.ret))) (.skip)))) ((.seq (.reg false [⟨none, .mv 9 (.c (.sc (.int .i64 1048576)))⟩]) ((.seq (.reg false [⟨none, .ld 25 true 3 (.t 5)⟩, ⟨none, .mv 26 (.t 9)⟩, ⟨none, .call (some 27) 40 [(.t 25), (.t 26)]⟩, ⟨none, .mv 9 (.t 27)⟩]) ((.seq ((.seq (.reg false [⟨none, .mv 28 (.t 9)⟩, ⟨none, .bin 29 .lss (.t 28) (.c (.sc (.int .i64 0)))⟩]) (.cond (.t 29) ((.seq (.reg false [⟨none, .mv 8 (.c (.sc (.bool true)))⟩]) (.ret))) (.skip)))) ((.seq (.reg false [⟨none, .ld 30 true 3 (.t 7)⟩, ⟨none, .mv 31 (.t 9)⟩, ⟨none, .call (some 32) 40 [(.t 30), (.t 31)]⟩, ⟨none, .mv 9 (.t 32)⟩]) ((.seq ((.seq (.reg false [⟨none, .mv 33 (.t 9)⟩, ⟨none, .bin 34 .lss (.t 33) (.c (.sc (.int .i64 0)))⟩]) (.cond (.t 34) ((.seq (.reg false [⟨none, .mv 8 (.c (.sc (.bool true)))⟩]) (.ret))) (.skip)))) ((.seq (.reg true [⟨none, .ld 36 true 2 (.t 4)⟩, ⟨none, .call (some 37) 26 [(.t 36)]⟩, ⟨none, .ld 38 true 3 (.t 5)⟩, ⟨none, .call (some 39) 43 [(.t 38)]⟩, ⟨none, .mv 40 (.t 2)⟩, ⟨none, .call (some 41) 17 [(.t 40)]⟩, ⟨none, .ld 42 true 3 (.t 7)⟩, ⟨none, .call (some 43) 43 [(.t 42)]⟩, ⟨none, .call (some 44) 51 [(.t 37), (.t 39), (.t 41), (.t 43)]⟩, ⟨none, .mv 35 (.t 44)⟩, ⟨none, .ext 45 (.t 35) 0⟩, ⟨none, .ext 46 (.t 35) 1⟩, ⟨none, .zer 10 3 (.ag [(.sc (.int .i64 0)), (.sc (.int .i64 0)), (.ls (some true) 3 [])])⟩, ⟨none, .st 3 (.t 10) (.t 45)⟩, ⟨none, .mv 11 (.t 46)⟩]) ((.seq (.reg false [⟨none, .ld 47 true 3 (.t 5)⟩, ⟨none, .call (some 48) 43 [(.t 47)]⟩, ⟨none, .zer 12 3 (.ag [(.sc (.int .i64 0)), (.sc (.int .i64 0)), (.ls (some true) 3 [])])⟩, ⟨none, .st 3 (.t 12) (.t 48)⟩]) ((.seq (.reg false [⟨none, .mv 49 (.t 2)⟩, ⟨none, .call (some 50) 17 [(.t 49)]⟩, ⟨none, .mv 13 (.t 50)⟩]) ((.seq (.reg false [⟨none, .ld 51 true 3 (.t 7)⟩, ⟨none, .call (some 52) 43 [(.t 51)]⟩, ⟨none, .zer 14 3 (.ag [(.sc (.int .i64 0)), (.sc (.int .i64 0)), (.ls (some true) 3 [])])⟩, ⟨none, .st 3 (.t 14) (.t 52)⟩]) ((.seq (.reg true [⟨none, .ld 54 true 2 (.t 4)⟩, ⟨none, .call (some 55) 26 [(.t 54)]⟩, ⟨none, .ld 56 true 3 (.t 12)⟩, ⟨none, .mv 57 (.t 13)⟩, ⟨none, .ld 58 true 3 (.t 14)⟩, ⟨none, .call (some 59) 52 [(.t 55), (.t 56), (.t 57), (.t 58)]⟩, ⟨none, .mv 53 (.t 59)⟩, ⟨none, .ext 60 (.t 53) 0⟩, ⟨none, .ext 61 (.t 53) 1⟩, ⟨none, .zer 15 3 (.ag [(.sc (.int .i64 0)), (.sc (.int .i64 0)), (.ls (some true) 3 [])])⟩, ⟨none, .st 3 (.t 15) (.t 60)⟩, ⟨none, .mv 16 (.t 61)⟩]) ((.seq ((.seq (.reg false [⟨none, .ld 62 true 3 (.t 15)⟩, ⟨none, .ld 63 true 3 (.t 10)⟩, ⟨none, .call (some 64) 46 [(.t 62), (.t 63)]⟩, ⟨none, .un 65 .not (.t 64)⟩, ⟨none, .mv 66 (.t 65)⟩, ⟨some (66, false), .mv 67 (.t 16)⟩, ⟨some (66, false), .mv 68 (.t 11)⟩, ⟨some (66, false), .bin 69 .neq (.t 67) (.t 68)⟩, ⟨none, .pick 70 (.t 66) (.c (.sc (.bool true))) (.t 69)⟩]) (.cond (.t 70) ((.seq (.reg false [⟨none, .mv 8 (.c (.sc (.bool false)))⟩]) (.ret))) (.skip)))) ((.seq ((.seq (.reg true [⟨none, .ld 71 true 3 (.t 12)⟩, ⟨none, .ld 72 true 3 (.t 5)⟩, ⟨none, .call (some 73) 43 [(.t 72)]⟩, ⟨none, .call (some 74) 46 [(.t 71), (.t 73)]⟩, ⟨none, .un 75 .not (.t 74)⟩]) (.cond (.t 75) ((.seq (.reg false [⟨none, .mv 8 (.c (.sc (.bool false)))⟩]) (.ret))) (.skip)))) ((.seq ((.seq (.reg false [⟨none, .mv 76 (.t 13)⟩, ⟨none, .mv 77 (.t 2)⟩, ⟨none, .call (some 78) 17 [(.t 77)]⟩, ⟨none, .call (some 79) 20 [(.t 76), (.t 78)]⟩, ⟨none, .un 80 .not (.t 79)⟩]) (.cond (.t 80) ((.seq (.reg false [⟨none, .mv 8 (.c (.sc (.bool false)))⟩]) (.ret))) (.skip)))) ((.seq ((.seq (.reg true [⟨none, .ld 81 true 3 (.t 14)⟩, ⟨none, .ld 82 true 3 (.t 7)⟩, ⟨none, .call (some 83) 43 [(.t 82)]⟩, ⟨none, .call (some 84) 46 [(.t 81), (.t 83)]⟩, ⟨none, .un 85 .not (.t 84)⟩]) (.cond (.t 85) ((.seq (.reg false [⟨none, .mv 8 (.c (.sc (.bool false)))⟩]) (.ret))) (.skip)))) ((.seq (.reg false [⟨none, .mv 17 (.c (.sc (.int .i64 1)))⟩]) ((.seq (.reg false [⟨none, .ld 86 true 3 (.t 12)⟩, ⟨none, .mv 87 (.t 17)⟩, ⟨none, .mcl 88 48 (.t 86) (.t 87)⟩, ⟨none, .mv 17 (.t 88)⟩]) ((.seq (.reg false [⟨none, .mv 89 (.t 13)⟩, ⟨none, .mv 90 (.t 17)⟩, ⟨none, .mcl 91 22 (.t 89) (.t 90)⟩, ⟨none, .mv 17 (.t 91)⟩]) ((.seq (.reg false [⟨none, .ld 92 true 3 (.t 14)⟩, ⟨none, .mv 93 (.t 17)⟩, ⟨none, .mcl 94 48 (.t 92) (.t 93)⟩, ⟨none, .mv 17 (.t 94)⟩]) ((.seq ((.seq (.reg false [⟨none, .mv 95 (.t 17)⟩, ⟨none, .bin 96 .lss (.t 95) (.c (.sc (.int .i64 0)))⟩, ⟨none, .mv 97 (.t 96)⟩, ⟨some (97, false), .ld 98 true 3 (.t 15)⟩, ⟨some (97, false), .ld 99 true 3 (.t 10)⟩, ⟨some (97, false), .call (some 100) 46 [(.t 98), (.t 99)]⟩, ⟨some (97, false), .un 101 .not (.t 100)⟩, ⟨none, .pick 102 (.t 97) (.c (.sc (.bool true))) (.t 101)⟩, ⟨none, .mv 103 (.t 102)⟩, ⟨some (103, false), .mv 104 (.t 16)⟩, ⟨some (103, false), .mv 105 (.t 11)⟩, ⟨some (103, false), .bin 106 .neq (.t 104) (.t 105)⟩, ⟨none, .pick 107 (.t 103) (.c (.sc (.bool true))) (.t 106)⟩]) (.cond (.t 107) ((.seq (.reg false [⟨none, .mv 8 (.c (.sc (.bool false)))⟩]) (.ret))) (.skip)))) ((.seq (.reg false [⟨none, .mv 18 (.c (.sc (.int .i64 1)))⟩]) ((.seq (.reg false [⟨none, .ld 108 true 3 (.t 15)⟩, ⟨none, .mv 109 (.t 18)⟩, ⟨none, .mcl 110 48 (.t 108) (.t 109)⟩, ⟨none, .mv 18 (.t 110)⟩]) ((.seq (.reg false [⟨none, .mv 19 (.c (.sc (.int .i64 1)))⟩]) ((.seq (.reg false [⟨none, .ld 111 true 3 (.t 15)⟩, ⟨none, .mv 112 (.t 19)⟩, ⟨none, .call (some 113) 50 [(.t 111), (.t 112)]⟩, ⟨none, .mv 19 (.t 113)⟩]) ((.seq ((.seq (.reg false [⟨none, .mv 114 (.t 19)⟩, ⟨none, .bin 115 .lss (.t 114) (.c (.sc (.int .i64 0)))⟩]) (.cond (.t 115) ((.seq (.reg false [⟨none, .mv 8 (.c (.sc (.bool false)))⟩]) (.ret))) (.skip)))) ((.seq ((.seq (.reg false [⟨none, .mv 116 (.t 19)⟩, ⟨none, .mv 117 (.t 18)⟩, ⟨none, .bin 118 .neq (.t 116) (.t 117)⟩]) (.cond (.t 118) ((.seq (.reg false [⟨none, .mv 8 (.c (.sc (.bool false)))⟩]) (.ret))) (.skip)))) ((.seq (.reg true [⟨none, .ld 120 true 2 (.t 4)⟩, ⟨none, .call (some 121) 26 [(.t 120)]⟩, ⟨none, .ld 122 true 3 (.t 5)⟩, ⟨none, .call (some 123) 43 [(.t 122)]⟩, ⟨none, .mv 124 (.t 2)⟩, ⟨none, .call (some 125) 17 [(.t 124)]⟩, ⟨none, .ld 126 true 3 (.t 7)⟩, ⟨none, .call (some 127) 43 [(.t 126)]⟩, ⟨none, .call (some 128) 52 [(.t 121), (.t 123), (.t 125), (.t 127)]⟩, ⟨none, .mv 119 (.t 128)⟩, ⟨none, .ext 129 (.t 119) 0⟩, ⟨none, .ext 130 (.t 119) 1⟩, ⟨none, .zer 20 3 (.ag [(.sc (.int .i64 0)), (.sc (.int .i64 0)), (.ls (some true) 3 [])])⟩, ⟨none, .st 3 (.t 20) (.t 129)⟩, ⟨none, .mv 21 (.t 130)⟩]) ((.seq ((.seq (.reg false [⟨none, .ld 131 true 3 (.t 20)⟩, ⟨none, .ld 132 true 3 (.t 10)⟩, ⟨none, .call (some 133) 46 [(.t 131), (.t 132)]⟩, ⟨none, .un 134 .not (.t 133)⟩, ⟨none, .mv 135 (.t 134)⟩, ⟨some (135, false), .mv 136 (.t 21)⟩, ⟨some (135, false), .mv 137 (.t 11)⟩, ⟨some (135, false), .bin 138 .neq (.t 136) (.t 137)⟩, ⟨none, .pick 139 (.t 135) (.c (.sc (.bool true))) (.t 138)⟩]) (.cond (.t 139) ((.seq (.reg false [⟨none, .mv 8 (.c (.sc (.bool false)))⟩]) (.ret))) (.skip)))) ((.seq (.reg false [⟨none, .mv 19 (.c (.sc (.int .i64 1)))⟩]) ((.seq (.reg false [⟨none, .ld 140 true 3 (.t 15)⟩, ⟨none, .mv 141 (.t 19)⟩, ⟨none, .call (some 142) 50 [(.t 140), (.t 141)]⟩, ⟨none, .mv 19 (.t 142)⟩]) ((.seq ((.seq (.reg false [⟨none, .mv 143 (.t 19)⟩, ⟨none, .bin 144 .lss (.t 143) (.c (.sc (.int .i64 0)))⟩]) (.cond (.t 144) ((.seq (.reg false [⟨none, .mv 8 (.c (.sc (.bool false)))⟩]) (.ret))) (.skip)))) ((.seq ((.seq (.reg false [⟨none, .mv 145 (.t 19)⟩, ⟨none, .mv 146 (.t 18)⟩, ⟨none, .bin 147 .neq (.t 145) (.t 146)⟩]) (.cond (.t 147) ((.seq (.reg false [⟨none, .mv 8 (.c (.sc (.bool false)))⟩]) (.ret))) (.skip)))) ((.seq (.reg false [⟨none, .mv 8 (.c (.sc (.bool true)))⟩]) (.ret))))))))))))))))))))))))))))))))))))))))))))))))))))))))))))))))))))
theorem res7 : resF Try.prog 7 = some (148, rc7, [.t 8]) := by kernel_rfl
noncomputable def famExpr : Fam Try.prog eE 40 43 46 := famE mixed res40 res41 res43 res44 res46 res47
theorem famExpr_t (x) : famExpr.t x = tE x := rfl
theorem fitE_tE (e : Ex) : fitE e → fitE (tE e) := by
 refine Ex.ind (p := fun e => fitE e → fitE (tE e)) (fun k n nn ks ih hf => ?_) e
 rw [fitE_mk] at hf
 rw [tE_mk, fitE_mk]
 refine ⟨by simpa using hf.1, fun x hx => ?_⟩
 obtain ⟨y, hy, rfl⟩ := List.mem_map.1 hx
 exact ih y hy (hf.2 y hy)
theorem cntE_size : ∀ e : Ex, cntE e = 2 * sizeE e :=
 Ex.ind fun k n nn ks ih => by
  rw [cntE_mk, sizeE_mk]
  have : ∀ {l : List Ex}, (∀ x ∈ l, cntE x = 2 * sizeE x) → cntL cntE l = 2 * sizeEs l := by
   intro l
   induction l with
   | nil => intro _; rfl
   | cons x l il => intro h; simp only [cntL, sizeEs, h x (by simp), il fun y hy => h y (by simp [hy])]; omega
  rw [this ih]; omega
theorem cntL_one {α : Type} (xs : List α) : cntL (one (α := α)) xs = xs.length := by
 induction xs with
 | nil => rfl
 | cons x xs ih => simp only [cntL, ih, one, List.length_cons]; omega
theorem cntE0_tE (e : Ex) : cntE0 (tE e) = cntE0 e := by
 have h := cntE_tE e
 rw [cntE_eq, cntE_eq] at h
 omega
theorem replT_cnt (g : Int × Int) (e : Ex) (xs : List Int) (r : Ex) : cntE0 (replT g e xs r).1 ≤ 2000000000 := by
 have h0 : cntE0 E0 ≤ 2000000000 := by simp [E0, cntE0_mk, cntL]
 unfold replT
 split
 ·unfold replM
  split
  ·split
   ·exact h0
   ·split
    ·next h2 =>
     simp only [okE, Bool.and_eq_true, decide_eq_true_eq] at h2
     have h3 := cntE_size (putAt xs e r)
     rw [cntE_eq] at h3
     have := h2.1
     show cntE0 (putAt xs e r) ≤ _
     omega
    ·exact h0
  ·exact h0
 ·exact h0
theorem law (g : Int × Int) (e : Ex) (p : Option Bool × List Int) (e2 : Ex) : AF Try.prog 7 [eG g, eE e, eS 1 eI p, eE e2] (.own (eB true)) := by
 obtain ⟨ek, en, enn, eks, rfl⟩ := Ex.ex e
 obtain ⟨nn, xs⟩ := p
 obtain ⟨bk, bn, bnn, bks, rfl⟩ := Ex.ex e2
 rw [eE_mk, eE_mk]
 refine af_of_res res7 mixed rfl fun hbd => ?_
 simp +contextual -implicitDefEqProofs only [rc7, eE_mk, eS, eG, eI, eB, bne_self_eq_false, go_sem, ↓reduceIte, Nat.reduceEqDiff, Nat.reduceAdd, Nat.reduceLeDiff, Nat.reduceMul, Nat.reduceBEq, Nat.reduceBneDiff, Nat.reduceLT, Nat.reduceSub]
 refine fun hpl => ?_
 refine callQ_self (ds := [eE (Ex.mk ek en enn eks), eI 1048576]) ?_ (famExpr.afS (Ex.mk ek en enn eks) 1048576 (by omega) (by omega)) ?_
 ·simp only [eE_mk, eS, eG, eI, eB, bne_self_eq_false]; exact rfl
 simp +contextual -implicitDefEqProofs only [eE_mk, eS, eG, eI, eB, bne_self_eq_false, go_sem, ↓reduceIte, Nat.reduceEqDiff, Nat.reduceAdd, Nat.reduceLeDiff, Nat.reduceMul, Nat.reduceBEq, Nat.reduceBneDiff, Nat.reduceLT, Nat.reduceSub]
 have sb0 := famExpr.s_in (Ex.mk ek en enn eks) 1048576 (by omega) (by omega)
 refine fun hs0 => ?_
 have hf0 := famExpr.s_fit (Ex.mk ek en enn eks) 1048576 (by omega) (by omega) (by omega)
 refine callQ_self (ds := [eE (Ex.mk bk bn bnn bks), eI (famExpr.s (Ex.mk ek en enn eks) 1048576)]) ?_ (famExpr.afS (Ex.mk bk bn bnn bks) (famExpr.s (Ex.mk ek en enn eks) 1048576) (by omega) (by omega)) ?_
 ·simp only [eE_mk, eS, eG, eI, eB, bne_self_eq_false]; exact rfl
 simp +contextual -implicitDefEqProofs only [eE_mk, eS, eG, eI, eB, bne_self_eq_false, go_sem, ↓reduceIte, Nat.reduceEqDiff, Nat.reduceAdd, Nat.reduceLeDiff, Nat.reduceMul, Nat.reduceBEq, Nat.reduceBneDiff, Nat.reduceLT, Nat.reduceSub]
 have sb1 := famExpr.s_in (Ex.mk bk bn bnn bks) (famExpr.s (Ex.mk ek en enn eks) 1048576) (by omega) (by omega)
 refine fun hs1 => ?_
 have hf1 := famExpr.s_fit (Ex.mk bk bn bnn bks) (famExpr.s (Ex.mk ek en enn eks) 1048576) (by omega) (by omega) (by omega)
 refine callQ_self (ds := [eG g]) ?_ (af26 g) ?_
 ·simp only [eE_mk, eS, eG, eI, eB, bne_self_eq_false]; exact rfl
 simp +contextual -implicitDefEqProofs only [eE_mk, eS, eG, eI, eB, bne_self_eq_false, go_sem, ↓reduceIte, Nat.reduceEqDiff, Nat.reduceAdd, Nat.reduceLeDiff, Nat.reduceMul, Nat.reduceBEq, Nat.reduceBneDiff, Nat.reduceLT, Nat.reduceSub]
 have hto := famExpr.afT (Ex.mk ek en enn eks) hf0
 have ht2 := famExpr.afT (Ex.mk bk bn bnn bks) hf1
 have hti := af_toS mixed encI noI ⟨rfl, rfl, rfl⟩ res17 (nn, xs) ⟨by show 8 * xs.length ≤ _; omega, by show xs.length ≤ _; omega⟩
 have hfT : fitE (famExpr.t (Ex.mk ek en enn eks)) := fitE_tE _ hf0
 have hf2 : fitE (famExpr.t (Ex.mk bk bn bnn bks)) := fitE_tE _ hf1
 have hsp := af51 g (famExpr.t (Ex.mk ek en enn eks)) (some false) xs (famExpr.t (Ex.mk bk bn bnn bks)) hfT hf2
 have him := af52 g (famExpr.t (Ex.mk ek en enn eks)) (some false) xs (famExpr.t (Ex.mk bk bn bnn bks)) hfT hf2
 have hqE := famExpr.afQ (famExpr.t (Ex.mk ek en enn eks)) (famExpr.t (Ex.mk ek en enn eks))
 rw [famExpr.q_refl] at hqE
 have hq2 := famExpr.afQ (famExpr.t (Ex.mk bk bn bnn bks)) (famExpr.t (Ex.mk bk bn bnn bks))
 rw [famExpr.q_refl] at hq2
 have hqI := af_eqS mixed res20 (some false, xs) (some false, xs)
 rw [eqL_refl (fun _ _ => by simp)] at hqI
 have hc0 : (cntE0 (famExpr.t (Ex.mk ek en enn eks)) : Int) ≤ 8388608 := by
  have h := szE_cnt (Ex.mk ek en enn eks) 1048576 (by omega) (by omega) (Int.not_lt.1 hs0)
  have e : cntE0 (famExpr.t (Ex.mk ek en enn eks)) = cntE0 (Ex.mk ek en enn eks) := cntE0_tE _
  have h' : 0 ≤ szE (Ex.mk ek en enn eks) 1048576 := Int.not_lt.1 hs0
  rw [e]; omega
 have hc2 : (cntE0 (famExpr.t (Ex.mk bk bn bnn bks)) : Int) ≤ 8388608 := by
  have h0 : 0 ≤ szE (Ex.mk ek en enn eks) 1048576 := Int.not_lt.1 hs0
  have h := szE_cnt (Ex.mk bk bn bnn bks) (famExpr.s (Ex.mk ek en enn eks) 1048576) (by omega) (by omega) (Int.not_lt.1 hs1)
  have e : cntE0 (famExpr.t (Ex.mk bk bn bnn bks)) = cntE0 (Ex.mk bk bn bnn bks) := cntE0_tE _
  have h' : 0 ≤ szE (Ex.mk bk bn bnn bks) (famExpr.s (Ex.mk ek en enn eks) 1048576) := Int.not_lt.1 hs1
  rw [e]; omega
 have hM0 := af48 (famExpr.t (Ex.mk ek en enn eks)) 1 (by omega) (by unfold maxK; omega)
 have hM1 := af_mkI res22 (some false) xs (1 + (cntE0 (famExpr.t (Ex.mk ek en enn eks)) : Int)) (by omega) (by rw [cntL_one]; unfold maxK; omega)
 have hM2 := af48 (famExpr.t (Ex.mk bk bn bnn bks)) (1 + cntE0 (famExpr.t (Ex.mk ek en enn eks)) + xs.length) (by omega) (by unfold maxK; omega)
 rw [cntL_one] at hM1
 have hcR := replT_cnt g (famExpr.t (Ex.mk ek en enn eks)) xs (famExpr.t (Ex.mk bk bn bnn bks))
 generalize replT g (famExpr.t (Ex.mk ek en enn eks)) xs (famExpr.t (Ex.mk bk bn bnn bks)) = r at hsp him hcR
 generalize mkE0 (famExpr.t (Ex.mk ek en enn eks)) 1 = mE at hM0
 generalize cntE0 (famExpr.t (Ex.mk ek en enn eks)) = c0 at hM0 hM1 hM2 hc0
 generalize mkL mkI one xs (1 + (c0 : Int)) = m1 at hM1
 generalize mkE0 (famExpr.t (Ex.mk bk bn bnn bks)) (1 + (c0 : Int) + (xs.length : Int)) = m2 at hM2
 generalize cntE0 (famExpr.t (Ex.mk bk bn bnn bks)) = c2 at hM2 hc2
 generalize (famExpr.t (Ex.mk ek en enn eks)) = wE at hto hsp him hqE hM0
 generalize (famExpr.t (Ex.mk bk bn bnn bks)) = wt at ht2 hsp him hq2 hM2
 obtain ⟨wk, wn, wnn, wks, rfl⟩ := Ex.ex wE
 obtain ⟨tk, tn, tnn, tks, rfl⟩ := Ex.ex wt
 obtain ⟨mk_, mn, mnn, mks, rfl⟩ := Ex.ex mE
 obtain ⟨m2k, m2n, m2nn, m2ks, rfl⟩ := Ex.ex m2
 obtain ⟨r, c⟩ := r
 obtain ⟨rk, rn, rnn, rks, rfl⟩ := Ex.ex r
 simp only at hsp him hcR
 have hqR := famExpr.afQ (Ex.mk rk rn rnn rks) (Ex.mk rk rn rnn rks)
 rw [famExpr.q_refl] at hqR
 have hM3 := af48 (Ex.mk rk rn rnn rks) 1 (by omega) (by unfold maxK; omega)
 have hH1 := af50 (Ex.mk rk rn rnn rks) 1 (by omega) (by unfold maxK; omega)
 generalize cntE0 (Ex.mk rk rn rnn rks) = cR at hM3 hH1 hcR
 generalize mkE0 (Ex.mk rk rn rnn rks) 1 = nE at hM3 hH1
 obtain ⟨nk, nn_, nnn, nks, rfl⟩ := Ex.ex nE
 have hk0 : ¬ (1 + (c0 : Int) + (xs.length : Int) + (c2 : Int) < 0) := by omega
 have hk1 : ¬ (1 + (cR : Int) < 0) := by omega
 simp only [eE_mk, eS] at hto hti ht2 hsp him hqE hqI hq2 hqR hM0 hM1 hM2 hM3 hH1
 refine callQ_self ?_ (hto) ?_
 ·exact rfl
 simp +contextual -implicitDefEqProofs only [eE_mk, eS, eG, eI, eB, bne_self_eq_false, go_sem, ↓reduceIte, Nat.reduceEqDiff, Nat.reduceAdd, Nat.reduceLeDiff, Nat.reduceMul, Nat.reduceBEq, Nat.reduceBneDiff, Nat.reduceLT, Nat.reduceSub]
 refine callQ_self ?_ (hti) ?_
 ·exact rfl
 simp +contextual -implicitDefEqProofs only [eE_mk, eS, eG, eI, eB, bne_self_eq_false, go_sem, ↓reduceIte, Nat.reduceEqDiff, Nat.reduceAdd, Nat.reduceLeDiff, Nat.reduceMul, Nat.reduceBEq, Nat.reduceBneDiff, Nat.reduceLT, Nat.reduceSub]
 refine callQ_self ?_ (ht2) ?_
 ·exact rfl
 simp +contextual -implicitDefEqProofs only [eE_mk, eS, eG, eI, eB, bne_self_eq_false, go_sem, ↓reduceIte, Nat.reduceEqDiff, Nat.reduceAdd, Nat.reduceLeDiff, Nat.reduceMul, Nat.reduceBEq, Nat.reduceBneDiff, Nat.reduceLT, Nat.reduceSub]
 refine callQ_self ?_ (hsp) ?_
 ·exact rfl
 simp +contextual -implicitDefEqProofs only [eE_mk, eS, eG, eI, eB, bne_self_eq_false, go_sem, ↓reduceIte, Nat.reduceEqDiff, Nat.reduceAdd, Nat.reduceLeDiff, Nat.reduceMul, Nat.reduceBEq, Nat.reduceBneDiff, Nat.reduceLT, Nat.reduceSub]
 refine callQ_self ?_ (hto) ?_
 ·exact rfl
 simp +contextual -implicitDefEqProofs only [eE_mk, eS, eG, eI, eB, bne_self_eq_false, go_sem, ↓reduceIte, Nat.reduceEqDiff, Nat.reduceAdd, Nat.reduceLeDiff, Nat.reduceMul, Nat.reduceBEq, Nat.reduceBneDiff, Nat.reduceLT, Nat.reduceSub]
 refine callQ_self ?_ (hti) ?_
 ·exact rfl
 simp +contextual -implicitDefEqProofs only [eE_mk, eS, eG, eI, eB, bne_self_eq_false, go_sem, ↓reduceIte, Nat.reduceEqDiff, Nat.reduceAdd, Nat.reduceLeDiff, Nat.reduceMul, Nat.reduceBEq, Nat.reduceBneDiff, Nat.reduceLT, Nat.reduceSub]
 refine callQ_self ?_ (ht2) ?_
 ·exact rfl
 simp +contextual -implicitDefEqProofs only [eE_mk, eS, eG, eI, eB, bne_self_eq_false, go_sem, ↓reduceIte, Nat.reduceEqDiff, Nat.reduceAdd, Nat.reduceLeDiff, Nat.reduceMul, Nat.reduceBEq, Nat.reduceBneDiff, Nat.reduceLT, Nat.reduceSub]
 refine callQ_self (ds := [eG g]) ?_ (af26 g) ?_
 ·simp only [eE_mk, eS, eG, eI, eB, bne_self_eq_false]; exact rfl
 simp +contextual -implicitDefEqProofs only [eE_mk, eS, eG, eI, eB, bne_self_eq_false, go_sem, ↓reduceIte, Nat.reduceEqDiff, Nat.reduceAdd, Nat.reduceLeDiff, Nat.reduceMul, Nat.reduceBEq, Nat.reduceBneDiff, Nat.reduceLT, Nat.reduceSub]
 refine callQ_self ?_ (him) ?_
 ·exact rfl
 simp +contextual -implicitDefEqProofs only [eE_mk, eS, eG, eI, eB, bne_self_eq_false, go_sem, ↓reduceIte, Nat.reduceEqDiff, Nat.reduceAdd, Nat.reduceLeDiff, Nat.reduceMul, Nat.reduceBEq, Nat.reduceBneDiff, Nat.reduceLT, Nat.reduceSub]
 refine callQ_self ?_ (hqR) ?_
 ·exact rfl
 simp +contextual -implicitDefEqProofs only [Bool.not_true, eE_mk, eS, eG, eI, eB, bne_self_eq_false, go_sem, ↓reduceIte, Nat.reduceEqDiff, Nat.reduceAdd, Nat.reduceLeDiff, Nat.reduceMul, Nat.reduceBEq, Nat.reduceBneDiff, Nat.reduceLT, Nat.reduceSub]
 refine callQ_self ?_ (hto) ?_
 ·exact rfl
 simp +contextual -implicitDefEqProofs only [eE_mk, eS, eG, eI, eB, bne_self_eq_false, go_sem, ↓reduceIte, Nat.reduceEqDiff, Nat.reduceAdd, Nat.reduceLeDiff, Nat.reduceMul, Nat.reduceBEq, Nat.reduceBneDiff, Nat.reduceLT, Nat.reduceSub]
 refine callQ_self ?_ (hqE) ?_
 ·exact rfl
 simp +contextual -implicitDefEqProofs only [Bool.not_true, eE_mk, eS, eG, eI, eB, bne_self_eq_false, go_sem, ↓reduceIte, Nat.reduceEqDiff, Nat.reduceAdd, Nat.reduceLeDiff, Nat.reduceMul, Nat.reduceBEq, Nat.reduceBneDiff, Nat.reduceLT, Nat.reduceSub]
 refine callQ_self ?_ (hti) ?_
 ·exact rfl
 simp +contextual -implicitDefEqProofs only [eE_mk, eS, eG, eI, eB, bne_self_eq_false, go_sem, ↓reduceIte, Nat.reduceEqDiff, Nat.reduceAdd, Nat.reduceLeDiff, Nat.reduceMul, Nat.reduceBEq, Nat.reduceBneDiff, Nat.reduceLT, Nat.reduceSub]
 refine callQ_self ?_ (hqI) ?_
 ·exact rfl
 simp +contextual -implicitDefEqProofs only [Bool.not_true, eE_mk, eS, eG, eI, eB, bne_self_eq_false, go_sem, ↓reduceIte, Nat.reduceEqDiff, Nat.reduceAdd, Nat.reduceLeDiff, Nat.reduceMul, Nat.reduceBEq, Nat.reduceBneDiff, Nat.reduceLT, Nat.reduceSub]
 refine callQ_self ?_ (ht2) ?_
 ·exact rfl
 simp +contextual -implicitDefEqProofs only [eE_mk, eS, eG, eI, eB, bne_self_eq_false, go_sem, ↓reduceIte, Nat.reduceEqDiff, Nat.reduceAdd, Nat.reduceLeDiff, Nat.reduceMul, Nat.reduceBEq, Nat.reduceBneDiff, Nat.reduceLT, Nat.reduceSub]
 refine callQ_self ?_ (hq2) ?_
 ·exact rfl
 simp +contextual -implicitDefEqProofs only [Bool.not_true, eE_mk, eS, eG, eI, eB, bne_self_eq_false, go_sem, ↓reduceIte, Nat.reduceEqDiff, Nat.reduceAdd, Nat.reduceLeDiff, Nat.reduceMul, Nat.reduceBEq, Nat.reduceBneDiff, Nat.reduceLT, Nat.reduceSub]
 refine ⟨.ag [.sc (.int .i64 mk_), .sc (.int .i64 mn), .ls mnn 3 (mks.map eE)], 1 + c0, hM0, ⟨rfl, fun _ => rfl, rfl⟩, ?_⟩
 simp +contextual -implicitDefEqProofs only [D.put, D.cells, D.size, D.sizeL, D.isAg, D.at, D.sub, eE_mk, eS, eG, eI, eB, bne_self_eq_false, go_sem, ↓reduceIte, Nat.reduceEqDiff, Nat.reduceAdd, Nat.reduceLeDiff, Nat.reduceMul, Nat.reduceBEq, Nat.reduceBneDiff, Nat.reduceLT, Nat.reduceSub]
 refine ⟨.ls (some false) 1 (m1.map eI), 1 + c0 + xs.length, hM1, rfl, ?_⟩
 simp +contextual -implicitDefEqProofs only [D.put, D.cells, D.size, D.sizeL, D.isAg, D.at, D.sub, eE_mk, eS, eG, eI, eB, bne_self_eq_false, go_sem, ↓reduceIte, Nat.reduceEqDiff, Nat.reduceAdd, Nat.reduceLeDiff, Nat.reduceMul, Nat.reduceBEq, Nat.reduceBneDiff, Nat.reduceLT, Nat.reduceSub]
 refine ⟨.ag [.sc (.int .i64 m2k), .sc (.int .i64 m2n), .ls m2nn 3 (m2ks.map eE)], 1 + c0 + xs.length + c2, hM2, ⟨rfl, fun _ => rfl, rfl⟩, ?_⟩
 simp +contextual -implicitDefEqProofs only [hk0, D.put, D.cells, D.size, D.sizeL, D.isAg, D.at, D.sub, eE_mk, eS, eG, eI, eB, bne_self_eq_false, go_sem, ↓reduceIte, Nat.reduceEqDiff, Nat.reduceAdd, Nat.reduceLeDiff, Nat.reduceMul, Nat.reduceBEq, Nat.reduceBneDiff, Nat.reduceLT, Nat.reduceSub]
 refine callQ_self ?_ (hqR) ?_
 ·exact rfl
 simp +contextual -implicitDefEqProofs only [Bool.not_true, eE_mk, eS, eG, eI, eB, bne_self_eq_false, go_sem, ↓reduceIte, Nat.reduceEqDiff, Nat.reduceAdd, Nat.reduceLeDiff, Nat.reduceMul, Nat.reduceBEq, Nat.reduceBneDiff, Nat.reduceLT, Nat.reduceSub]
 refine ⟨.ag [.sc (.int .i64 nk), .sc (.int .i64 nn_), .ls nnn 3 (nks.map eE)], 1 + cR, hM3, ⟨rfl, fun _ => rfl, rfl⟩, ?_⟩
 simp +contextual -implicitDefEqProofs only [D.put, D.cells, D.size, D.sizeL, D.isAg, D.at, D.sub, eE_mk, eS, eG, eI, eB, bne_self_eq_false, go_sem, ↓reduceIte, Nat.reduceEqDiff, Nat.reduceAdd, Nat.reduceLeDiff, Nat.reduceMul, Nat.reduceBEq, Nat.reduceBneDiff, Nat.reduceLT, Nat.reduceSub]
 refine callQ_self ?_ (hH1) ?_
 ·exact rfl
 simp +contextual -implicitDefEqProofs only [hk1, eE_mk, eS, eG, eI, eB, bne_self_eq_false, go_sem, ↓reduceIte, Nat.reduceEqDiff, Nat.reduceAdd, Nat.reduceLeDiff, Nat.reduceMul, Nat.reduceBEq, Nat.reduceBneDiff, Nat.reduceLT, Nat.reduceSub]
 refine callQ_self (ds := [eG g]) ?_ (af26 g) ?_
 ·simp only [eE_mk, eS, eG, eI, eB, bne_self_eq_false]; exact rfl
 simp +contextual -implicitDefEqProofs only [eE_mk, eS, eG, eI, eB, bne_self_eq_false, go_sem, ↓reduceIte, Nat.reduceEqDiff, Nat.reduceAdd, Nat.reduceLeDiff, Nat.reduceMul, Nat.reduceBEq, Nat.reduceBneDiff, Nat.reduceLT, Nat.reduceSub]
 refine callQ_self ?_ (hto) ?_
 ·exact rfl
 simp +contextual -implicitDefEqProofs only [eE_mk, eS, eG, eI, eB, bne_self_eq_false, go_sem, ↓reduceIte, Nat.reduceEqDiff, Nat.reduceAdd, Nat.reduceLeDiff, Nat.reduceMul, Nat.reduceBEq, Nat.reduceBneDiff, Nat.reduceLT, Nat.reduceSub]
 refine callQ_self ?_ (hti) ?_
 ·exact rfl
 simp +contextual -implicitDefEqProofs only [eE_mk, eS, eG, eI, eB, bne_self_eq_false, go_sem, ↓reduceIte, Nat.reduceEqDiff, Nat.reduceAdd, Nat.reduceLeDiff, Nat.reduceMul, Nat.reduceBEq, Nat.reduceBneDiff, Nat.reduceLT, Nat.reduceSub]
 refine callQ_self ?_ (ht2) ?_
 ·exact rfl
 simp +contextual -implicitDefEqProofs only [eE_mk, eS, eG, eI, eB, bne_self_eq_false, go_sem, ↓reduceIte, Nat.reduceEqDiff, Nat.reduceAdd, Nat.reduceLeDiff, Nat.reduceMul, Nat.reduceBEq, Nat.reduceBneDiff, Nat.reduceLT, Nat.reduceSub]
 refine callQ_self ?_ (him) ?_
 ·exact rfl
 simp +contextual -implicitDefEqProofs only [eE_mk, eS, eG, eI, eB, bne_self_eq_false, go_sem, ↓reduceIte, Nat.reduceEqDiff, Nat.reduceAdd, Nat.reduceLeDiff, Nat.reduceMul, Nat.reduceBEq, Nat.reduceBneDiff, Nat.reduceLT, Nat.reduceSub]
 refine callQ_self ?_ (hqR) ?_
 ·exact rfl
 simp +contextual -implicitDefEqProofs only [Bool.not_true, eE_mk, eS, eG, eI, eB, bne_self_eq_false, go_sem, ↓reduceIte, Nat.reduceEqDiff, Nat.reduceAdd, Nat.reduceLeDiff, Nat.reduceMul, Nat.reduceBEq, Nat.reduceBneDiff, Nat.reduceLT, Nat.reduceSub]
 refine callQ_self ?_ (hH1) ?_
 ·exact rfl
 simp +contextual -implicitDefEqProofs only [hk1, eE_mk, eS, eG, eI, eB, bne_self_eq_false, go_sem, ↓reduceIte, Nat.reduceEqDiff, Nat.reduceAdd, Nat.reduceLeDiff, Nat.reduceMul, Nat.reduceBEq, Nat.reduceBneDiff, Nat.reduceLT, Nat.reduceSub]
end Go.Ax
