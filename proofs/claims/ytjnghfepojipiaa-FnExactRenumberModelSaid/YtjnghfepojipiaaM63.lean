/- Contracts of functions of the seat, proved over the engine. No condition. -/
import Derived.Shelf.SortM.Plain
import Derived.Test.YtjnghfepojipiaaX89
import Derived.Test.YtjnghfepojipiaaAxI
import Derived.Test.YtjnghfepojipiaaChecked
set_option linter.unusedSimpArgs false
set_option linter.unusedVariables false
set_option linter.unnecessarySimpa false
namespace Go.Ax
open Go.Proofs Go.Shelf
set_option linter.unusedSimpArgs false
theorem mixed : Try.prog.follows .mixedOrders = true := by kernel_rfl
theorem res192 : resF Try.prog 192 = some (12, cSzP, [.t 4]) := by kernel_rfl
theorem res89 : resF Try.prog 89 = some (27, cSzC 192 1 false, [.t 4]) := by kernel_rfl
theorem res90 : resF Try.prog 90 = some (27, cSzC 89 1 false, [.t 4]) := by kernel_rfl

def rc14 : RC := (.seq (.reg false [⟨none, .box 2 5 (.t 0)⟩, ⟨none, .mv 4 (.c (.sc (.int .i64 0)))⟩]) ((.seq (.reg false [⟨none, .fa 5 3 (.t 2)⟩, ⟨none, .ld 6 false 1 (.t 5)⟩, ⟨none, .mv 7 (.t 1)⟩, ⟨none, .call (some 8) 89 [(.t 6), (.t 7)]⟩, ⟨none, .mv 1 (.t 8)⟩]) ((.seq ((.seq (.reg false [⟨none, .mv 9 (.t 1)⟩, ⟨none, .bin 10 .lss (.t 9) (.c (.sc (.int .i64 0)))⟩]) (.cond (.t 10) ((.seq (.reg false [⟨none, .mv 4 (.c (.sc (.int .i64 (-1))))⟩]) (.ret))) (.skip)))) ((.seq (.reg false [⟨none, .fa 11 4 (.t 2)⟩, ⟨none, .ld 12 false 1 (.t 11)⟩, ⟨none, .mv 13 (.t 1)⟩, ⟨none, .call (some 14) 90 [(.t 12), (.t 13)]⟩, ⟨none, .mv 1 (.t 14)⟩]) ((.seq ((.seq (.reg false [⟨none, .mv 15 (.t 1)⟩, ⟨none, .bin 16 .lss (.t 15) (.c (.sc (.int .i64 0)))⟩]) (.cond (.t 16) ((.seq (.reg false [⟨none, .mv 4 (.c (.sc (.int .i64 (-1))))⟩]) (.ret))) (.skip)))) ((.seq (.reg false [⟨none, .mv 17 (.t 1)⟩, ⟨none, .mv 4 (.t 17)⟩]) (.ret))))))))))))
theorem res14 : resF Try.prog 14 = some (18, rc14, [.t 4]) := by kernel_rfl
theorem res26 : resF Try.prog 26 = some (11, k_toSig, [.c 2 2 true]) := by kernel_rfl
theorem af26 : K_toSig Try.prog 26 := a_toSig mixed res26
theorem res194 : resF Try.prog 194 = some (22, cToS 1 (.sc (.bool false)), [.t 2]) := by kernel_rfl
theorem res94 : resF Try.prog 94 = some (23, cToC 194 1 24 false (.ls (some true) 1 []), [.t 2]) := by kernel_rfl
theorem res95 : resF Try.prog 95 = some (23, cToC 94 1 24 false (.ls (some true) 1 []), [.t 2]) := by kernel_rfl

def rc16 : RC := (.seq (.reg false [⟨none, .box 1 5 (.t 0)⟩, ⟨none, .zer 2 5 (.ag [(.sc (.int .i64 0)), (.sc (.int .i64 0)), (.sc (.int .i64 0)), (.ls (some true) 1 []), (.ls (some true) 1 [])])⟩]) ((.seq (.reg false [⟨none, .zer 3 5 (.ag [(.sc (.int .i64 0)), (.sc (.int .i64 0)), (.sc (.int .i64 0)), (.ls (some true) 1 []), (.ls (some true) 1 [])])⟩]) ((.seq (.reg false [⟨none, .fa 4 0 (.t 1)⟩, ⟨none, .ld 5 true 2 (.t 4)⟩, ⟨none, .call (some 6) 26 [(.t 5)]⟩, ⟨none, .fa 7 0 (.t 3)⟩, ⟨none, .st 2 (.t 7) (.t 6)⟩]) ((.seq (.reg false [⟨none, .fa 8 2 (.t 1)⟩, ⟨none, .ld 9 false 1 (.t 8)⟩, ⟨none, .fa 10 2 (.t 3)⟩, ⟨none, .st 1 (.t 10) (.t 9)⟩]) ((.seq (.reg false [⟨none, .fa 11 3 (.t 1)⟩, ⟨none, .ld 12 false 1 (.t 11)⟩, ⟨none, .call (some 13) 94 [(.t 12)]⟩, ⟨none, .fa 14 3 (.t 3)⟩, ⟨none, .st 1 (.t 14) (.t 13)⟩]) ((.seq (.reg false [⟨none, .fa 15 4 (.t 1)⟩, ⟨none, .ld 16 false 1 (.t 15)⟩, ⟨none, .call (some 17) 95 [(.t 16)]⟩, ⟨none, .fa 18 4 (.t 3)⟩, ⟨none, .st 1 (.t 18) (.t 17)⟩]) ((.seq (.reg false [⟨none, .ld 19 true 5 (.t 3)⟩, ⟨none, .st 5 (.t 2) (.t 19)⟩]) (.ret))))))))))))))
theorem res16 : resF Try.prog 16 = some (20, rc16, [.c 2 5 true]) := by kernel_rfl
theorem res17 : resF Try.prog 17 = some (22, cToS 8 (.sc (.int .i64 0)), [.t 2]) := by kernel_rfl
theorem res109 : resF Try.prog 109 = some (15, k_l00In, [.t 6]) := by kernel_rfl
theorem af109 : K_l00In Try.prog 109 := a_l00In mixed res109
theorem res130 : resF Try.prog 130 = some (11, k_l01Sig 109, [.t 2]) := by kernel_rfl
theorem af130 : K_l01Sig Try.prog 130 := a_l01Sig mixed res130 af109
theorem res193 : resF Try.prog 193 = some (36, k_l05Tests 130 109, [.t 6]) := by kernel_rfl
theorem af193 : K_l05Tests Try.prog 193 := a_l05Tests mixed res193 af130 af109
theorem res91 : resF Try.prog 91 = some (82, k_l05Ok 193, [.t 2]) := by kernel_rfl
theorem af91 : K_l05Ok Try.prog 91 := a_l05Ok mixed res91 af193
theorem res92 : resF Try.prog 92 = some (18, k_l05Has, [.t 4]) := by kernel_rfl
theorem af92 : K_l05Has Try.prog 92 := a_l05Has mixed res92
theorem res93 : resF Try.prog 93 = some (115, k_l05Pick, [.c 4 5 true]) := by kernel_rfl
theorem af93 : K_l05Pick Try.prog 93 := a_l05Pick mixed res93
theorem res15 : resF Try.prog 15 = some (29, k_spRenumber 91 92 93, [.c 4 5 true, .t 5]) := by kernel_rfl
theorem af15 : K_spRenumber Try.prog 15 := a_spRenumber mixed res15 af91 af92 af93
theorem res115 : resF Try.prog 115 = some (15, k_within, [.t 6]) := by kernel_rfl
theorem af115 : K_within Try.prog 115 := a_within mixed res115
theorem res138 : resF Try.prog 138 = some (11, k_validSig 115, [.t 2]) := by kernel_rfl
theorem af138 : K_validSig Try.prog 138 := a_validSig mixed res138 af115
theorem res248 : resF Try.prog 248 = some (24, k_isTableB, [.t 6]) := by kernel_rfl
theorem af248 : K_isTableB Try.prog 248 := a_isTableB mixed res248
theorem res195 : resF Try.prog 195 = some (46, k_isFrameB 138 115 248, [.t 8]) := by kernel_rfl
theorem af195 : K_isFrameB Try.prog 195 := a_isFrameB mixed res195 af138 af115 af248
theorem res96 : resF Try.prog 96 = some (12, k_validModel 195, [.t 2]) := by kernel_rfl
theorem af96 : K_validModel Try.prog 96 := a_validModel mixed res96 af195
theorem res97 : resF Try.prog 97 = some (8, k_cloneI, [.t 2]) := by kernel_rfl
theorem af97 : K_cloneI Try.prog 97 := a_cloneI mixed res97
def srtRen : Go.Shelf.Ren := ⟨fun | 5 => 98 | 7 => 196 | 8 => 197 | 10 => 258 | 11 => 259 | 12 => 260 | 13 => 261 | 14 => 262 | 15 => 263 | 16 => 264 | 17 => 265 | 18 => 266 | 19 => 267 | 20 => 268 | 30 => 287 | 31 => 288 | 32 => 289 | 33 => 290 | 34 => 291 | 35 => 292 | 40 => 297 | n => n, fun | 0 => 0 | 3 => 3 | 4 => 4 | 5 => 5 | 9 => 9 | 22 => 28 | 23 => 28 | 25 => 2 | 32 => 146 | 35 => 274 | 36 => 275 | 41 => 279 | 44 => 282 | 46 => 251 | 53 => 293 | 57 => 297 | 63 => 302 | 64 => 178 | n => n, fun | n => n⟩
theorem srtLay : SlLaysM.n5 Try.prog srtRen := { mixed := by kernel_rfl, f5 := ⟨Try.f98.name, by decide, Try.func98.trans (congrArg some (by kernel_rfl))⟩, f7 := ⟨Try.f196.name, by decide, Try.func196.trans (congrArg some (by kernel_rfl))⟩, f8 := Try.func197.trans (congrArg some (by kernel_rfl)), f10 := ⟨Try.f258.name, by decide, Try.func258.trans (congrArg some (by kernel_rfl))⟩, f11 := ⟨Try.f259.name, by decide, Try.func259.trans (congrArg some (by kernel_rfl))⟩, f12 := ⟨Try.f260.name, by decide, Try.func260.trans (congrArg some (by kernel_rfl))⟩, f13 := ⟨Try.f261.name, by decide, Try.func261.trans (congrArg some (by kernel_rfl))⟩, f14 := ⟨Try.f262.name, by decide, Try.func262.trans (congrArg some (by kernel_rfl))⟩, f15 := ⟨Try.f263.name, by decide, Try.func263.trans (congrArg some (by kernel_rfl))⟩, f16 := ⟨Try.f264.name, by decide, Try.func264.trans (congrArg some (by kernel_rfl))⟩, f17 := ⟨Try.f265.name, by decide, Try.func265.trans (congrArg some (by kernel_rfl))⟩, f18 := ⟨Try.f266.name, by decide, Try.func266.trans (congrArg some (by kernel_rfl))⟩, f19 := Try.func267.trans (congrArg some (by kernel_rfl)), f20 := Try.func268.trans (congrArg some (by kernel_rfl)), f30 := ⟨Try.f287.name, by decide, Try.func287.trans (congrArg some (by kernel_rfl))⟩, f31 := Try.func288.trans (congrArg some (by kernel_rfl)), f32 := Try.func289.trans (congrArg some (by kernel_rfl)), f33 := ⟨Try.f290.name, by decide, Try.func290.trans (congrArg some (by kernel_rfl))⟩, f34 := ⟨Try.f291.name, by decide, Try.func291.trans (congrArg some (by kernel_rfl))⟩, f35 := ⟨Try.f292.name, by decide, Try.func292.trans (congrArg some (by kernel_rfl))⟩, f40 := ⟨Try.f297.name, by decide, Try.func297.trans (congrArg some (by kernel_rfl))⟩, t0 := Try.underlying0, a0 := Try.isAgg0, z0 := Try.sizeOf0, v0 := Try.zeroValue0, t3 := Try.underlying3, a3 := Try.isAgg3, z3 := Try.sizeOf3, v3 := Try.zeroValue3, t4 := Try.underlying4, a4 := Try.isAgg4, z4 := Try.sizeOf4, v4 := Try.zeroValue4, t5 := Try.underlying5, a5 := Try.isAgg5, z5 := Try.sizeOf5, v5 := Try.zeroValue5, t9 := Try.underlying9, a9 := Try.isAgg9, z9 := Try.sizeOf9, v9 := Try.zeroValue9, t22 := Try.underlying28, a22 := Try.isAgg28, z22 := Try.sizeOf28, v22 := Try.zeroValue28, t23 := Try.underlying28, a23 := Try.isAgg28, z23 := Try.sizeOf28, v23 := Try.zeroValue28, t25 := Try.underlying2, a25 := Try.isAgg2, z25 := Try.sizeOf2, v25 := Try.zeroValue2, t32 := Try.underlying146, a32 := Try.isAgg146, z32 := Try.sizeOf146, v32 := Try.zeroValue146, t35 := Try.underlying274, a35 := Try.isAgg274, z35 := Try.sizeOf274, v35 := Try.zeroValue274, t36 := Try.underlying275, a36 := Try.isAgg275, z36 := Try.sizeOf275, v36 := Try.zeroValue275, t41 := Try.underlying279, a41 := Try.isAgg279, z41 := Try.sizeOf279, v41 := Try.zeroValue279, t44 := Try.underlying282, a44 := Try.isAgg282, z44 := Try.sizeOf282, v44 := Try.zeroValue282, t46 := Try.underlying251, a46 := Try.isAgg251, z46 := Try.sizeOf251, v46 := Try.zeroValue251, t53 := Try.underlying293, a53 := Try.isAgg293, z53 := Try.sizeOf293, v53 := Try.zeroValue293, t57 := Try.underlying297, a57 := Try.isAgg297, z57 := Try.sizeOf297, v57 := Try.zeroValue297, t63 := Try.underlying302, a63 := Try.isAgg302, z63 := Try.sizeOf302, v63 := Try.zeroValue302, t64 := Try.underlying178, a64 := Try.isAgg178, z64 := Try.sizeOf178, v64 := Try.zeroValue178 }
theorem srtE : srtRen.f 5 = 98 := rfl
theorem af98 : K_sortI Try.prog 98 := sortI_ok ⟨Try.f98, Try.func98, by kernel_rfl, by kernel_rfl⟩ fun blk cap zs w hH hb hz => by
 have h := AnyM.slices_Sort_int srtLay blk 0 cap zs w hH hb hz
 rw [srtE] at h
 exact h
theorem res198 : resF Try.prog 198 = some (20, k_ascending, [.t 2]) := by kernel_rfl
theorem af198 : K_ascending Try.prog 198 := a_ascending mixed res198
theorem res199 : resF Try.prog 199 = some (19, k_inRange 115, [.t 4]) := by kernel_rfl
theorem af199 : K_inRange Try.prog 199 := a_inRange mixed res199 af115
theorem res99 : resF Try.prog 99 = some (13, k_isSet 198 199, [.t 4]) := by kernel_rfl
theorem af99 : K_isSet Try.prog 99 := a_isSet mixed res99 af198 af199
theorem res173 : resF Try.prog 173 = some (33, k_tableB, [.t 4]) := by kernel_rfl
theorem af173 : K_tableB Try.prog 173 := a_tableB mixed res173
theorem res200 : resF Try.prog 200 = some (20, k_chosen1, [.t 6]) := by kernel_rfl
theorem af200 : K_chosen1 Try.prog 200 := a_chosen1 mixed res200
theorem res100 : resF Try.prog 100 = some (65, k_chosen 173 200, [.c 4 5 true]) := by kernel_rfl
theorem af100 : K_chosen Try.prog 100 := a_chosen mixed res100 af173 af200
theorem res18 : resF Try.prog 18 = some (30, k_imRenumber 96 97 98 99 100, [.c 4 5 true, .t 5]) := by kernel_rfl
theorem af18 : K_imRenumber Try.prog 18 := a_imRenumber mixed res18 af96 af97 af98 af99 af100
theorem res101 : resF Try.prog 101 = some (15, k_eqSig, [.t 4]) := by kernel_rfl
theorem af101 : K_eqSig Try.prog 101 := a_eqSig mixed res101
theorem res201 : resF Try.prog 201 = some (26, cEqB, [.t 4]) := by kernel_rfl
theorem res102 : resF Try.prog 102 = some (27, cEqC 201 1 false, [.t 4]) := by kernel_rfl
theorem res103 : resF Try.prog 103 = some (27, cEqC 102 1 false, [.t 4]) := by kernel_rfl

def rc19 : RC := (.seq (.reg false [⟨none, .box 2 5 (.t 0)⟩, ⟨none, .box 3 5 (.t 1)⟩, ⟨none, .mv 4 (.c (.sc (.bool false)))⟩]) ((.seq ((.seq (.reg false [⟨none, .fa 5 0 (.t 2)⟩, ⟨none, .ld 6 true 2 (.t 5)⟩, ⟨none, .fa 7 0 (.t 3)⟩, ⟨none, .ld 8 true 2 (.t 7)⟩, ⟨none, .call (some 9) 101 [(.t 6), (.t 8)]⟩, ⟨none, .un 10 .not (.t 9)⟩]) (.cond (.t 10) ((.seq (.reg false [⟨none, .mv 4 (.c (.sc (.bool false)))⟩]) (.ret))) (.skip)))) ((.seq ((.seq (.reg false [⟨none, .fa 11 2 (.t 2)⟩, ⟨none, .ld 12 false 1 (.t 11)⟩, ⟨none, .fa 13 2 (.t 3)⟩, ⟨none, .ld 14 false 1 (.t 13)⟩, ⟨none, .bin 15 .neq (.t 12) (.t 14)⟩]) (.cond (.t 15) ((.seq (.reg false [⟨none, .mv 4 (.c (.sc (.bool false)))⟩]) (.ret))) (.skip)))) ((.seq ((.seq (.reg false [⟨none, .fa 16 3 (.t 2)⟩, ⟨none, .ld 17 false 1 (.t 16)⟩, ⟨none, .fa 18 3 (.t 3)⟩, ⟨none, .ld 19 false 1 (.t 18)⟩, ⟨none, .call (some 20) 102 [(.t 17), (.t 19)]⟩, ⟨none, .un 21 .not (.t 20)⟩]) (.cond (.t 21) ((.seq (.reg false [⟨none, .mv 4 (.c (.sc (.bool false)))⟩]) (.ret))) (.skip)))) ((.seq ((.seq (.reg false [⟨none, .fa 22 4 (.t 2)⟩, ⟨none, .ld 23 false 1 (.t 22)⟩, ⟨none, .fa 24 4 (.t 3)⟩, ⟨none, .ld 25 false 1 (.t 24)⟩, ⟨none, .call (some 26) 103 [(.t 23), (.t 25)]⟩, ⟨none, .un 27 .not (.t 26)⟩]) (.cond (.t 27) ((.seq (.reg false [⟨none, .mv 4 (.c (.sc (.bool false)))⟩]) (.ret))) (.skip)))) ((.seq (.reg false [⟨none, .mv 4 (.c (.sc (.bool true)))⟩]) (.ret))))))))))))
theorem res19 : resF Try.prog 19 = some (28, rc19, [.t 4]) := by kernel_rfl
theorem res20 : resF Try.prog 20 = some (26, cEqS, [.t 4]) := by kernel_rfl
theorem res203 : resF Try.prog 203 = some (23, cHdB, [.t 4]) := by kernel_rfl
theorem res106 : resF Try.prog 106 = some (21, cHdC 203, [.t 4]) := by kernel_rfl
theorem res107 : resF Try.prog 107 = some (21, cHdC 106, [.t 4]) := by kernel_rfl

def rc23 : RC := (.seq (.reg false [⟨none, .box 2 5 (.t 0)⟩, ⟨none, .mv 4 (.c (.sc (.int .i64 0)))⟩]) ((.seq (.reg false [⟨none, .fa 5 3 (.t 2)⟩, ⟨none, .ld 6 false 1 (.t 5)⟩, ⟨none, .mv 7 (.t 1)⟩, ⟨none, .call (some 8) 106 [(.t 6), (.t 7)]⟩, ⟨none, .mv 1 (.t 8)⟩]) ((.seq ((.seq (.reg false [⟨none, .mv 9 (.t 1)⟩, ⟨none, .bin 10 .lss (.t 9) (.c (.sc (.int .i64 0)))⟩]) (.cond (.t 10) ((.seq (.reg false [⟨none, .mv 4 (.c (.sc (.int .i64 (-1))))⟩]) (.ret))) (.skip)))) ((.seq (.reg false [⟨none, .fa 11 4 (.t 2)⟩, ⟨none, .ld 12 false 1 (.t 11)⟩, ⟨none, .mv 13 (.t 1)⟩, ⟨none, .call (some 14) 107 [(.t 12), (.t 13)]⟩, ⟨none, .mv 1 (.t 14)⟩]) ((.seq ((.seq (.reg false [⟨none, .mv 15 (.t 1)⟩, ⟨none, .bin 16 .lss (.t 15) (.c (.sc (.int .i64 0)))⟩]) (.cond (.t 16) ((.seq (.reg false [⟨none, .mv 4 (.c (.sc (.int .i64 (-1))))⟩]) (.ret))) (.skip)))) ((.seq (.reg false [⟨none, .mv 17 (.t 1)⟩, ⟨none, .mv 4 (.t 17)⟩]) (.ret))))))))))))
theorem res23 : resF Try.prog 23 = some (18, rc23, [.t 4]) := by kernel_rfl
theorem res202 : resF Try.prog 202 = some (21, cMkB, [.t 4]) := by kernel_rfl
theorem res104 : resF Try.prog 104 = some (19, cMkC 202, [.t 4]) := by kernel_rfl
theorem res105 : resF Try.prog 105 = some (19, cMkC 104, [.t 4]) := by kernel_rfl

def rc21 : RC := (.seq (.reg false [⟨none, .box 2 5 (.t 0)⟩, ⟨none, .mv 4 (.c (.sc (.int .i64 0)))⟩]) ((.seq (.reg false [⟨none, .fa 5 3 (.t 2)⟩, ⟨none, .ld 6 false 1 (.t 5)⟩, ⟨none, .mv 7 (.t 1)⟩, ⟨none, .mcl 8 104 (.t 6) (.t 7)⟩, ⟨none, .mv 1 (.t 8)⟩]) ((.seq (.reg false [⟨none, .fa 9 4 (.t 2)⟩, ⟨none, .ld 10 false 1 (.t 9)⟩, ⟨none, .mv 11 (.t 1)⟩, ⟨none, .mcl 12 105 (.t 10) (.t 11)⟩, ⟨none, .mv 1 (.t 12)⟩]) ((.seq (.reg false [⟨none, .mv 13 (.t 1)⟩, ⟨none, .mv 4 (.t 13)⟩]) (.ret))))))))
theorem res21 : resF Try.prog 21 = some (14, rc21, [.t 4]) := by kernel_rfl
theorem res22 : resF Try.prog 22 = some (19, cMkI, [.t 4]) := by kernel_rfl

def rc3 : RC := (.seq (.reg false [⟨none, .box 2 5 (.t 0)⟩, ⟨none, .mv 4 (.c (.sc (.bool false)))⟩]) ((.seq ((.seq (.reg false [⟨none, .mv 17 (.t 1)⟩, ⟨none, .len 18 (.t 17)⟩, ⟨none, .bin 19 .gtr (.t 18) (.c (.sc (.int .i64 1048576)))⟩]) (.cond (.t 19) ((.seq (.reg false [⟨none, .mv 4 (.c (.sc (.bool true)))⟩]) (.ret))) (.skip)))) ((.seq (.reg false [⟨none, .mv 5 (.c (.sc (.int .i64 1048576)))⟩]) ((.seq (.reg false [⟨none, .ld 20 true 5 (.t 2)⟩, ⟨none, .mv 21 (.t 5)⟩, ⟨none, .call (some 22) 14 [(.t 20), (.t 21)]⟩, ⟨none, .mv 5 (.t 22)⟩]) ((.seq ((.seq (.reg false [⟨none, .mv 23 (.t 5)⟩, ⟨none, .bin 24 .lss (.t 23) (.c (.sc (.int .i64 0)))⟩]) (.cond (.t 24) ((.seq (.reg false [⟨none, .mv 4 (.c (.sc (.bool true)))⟩]) (.ret))) (.skip)))) ((.seq (.reg false [⟨none, .ld 26 true 5 (.t 2)⟩, ⟨none, .call (some 27) 16 [(.t 26)]⟩, ⟨none, .mv 28 (.t 1)⟩, ⟨none, .call (some 29) 17 [(.t 28)]⟩, ⟨none, .call (some 30) 15 [(.t 27), (.t 29)]⟩, ⟨none, .mv 25 (.t 30)⟩, ⟨none, .ext 31 (.t 25) 0⟩, ⟨none, .ext 32 (.t 25) 1⟩, ⟨none, .zer 6 5 (.ag [(.sc (.int .i64 0)), (.sc (.int .i64 0)), (.sc (.int .i64 0)), (.ls (some true) 1 []), (.ls (some true) 1 [])])⟩, ⟨none, .st 5 (.t 6) (.t 31)⟩, ⟨none, .mv 7 (.t 32)⟩]) ((.seq (.reg false [⟨none, .ld 33 true 5 (.t 2)⟩, ⟨none, .call (some 34) 16 [(.t 33)]⟩, ⟨none, .zer 8 5 (.ag [(.sc (.int .i64 0)), (.sc (.int .i64 0)), (.sc (.int .i64 0)), (.ls (some true) 1 []), (.ls (some true) 1 [])])⟩, ⟨none, .st 5 (.t 8) (.t 34)⟩]) ((.seq (.reg false [⟨none, .mv 35 (.t 1)⟩, ⟨none, .call (some 36) 17 [(.t 35)]⟩, ⟨none, .mv 9 (.t 36)⟩]) ((.seq (.reg false [⟨none, .ld 38 true 5 (.t 8)⟩, ⟨none, .mv 39 (.t 9)⟩, ⟨none, .call (some 40) 18 [(.t 38), (.t 39)]⟩, ⟨none, .mv 37 (.t 40)⟩, ⟨none, .ext 41 (.t 37) 0⟩, ⟨none, .ext 42 (.t 37) 1⟩, ⟨none, .zer 10 5 (.ag [(.sc (.int .i64 0)), (.sc (.int .i64 0)), (.sc (.int .i64 0)), (.ls (some true) 1 []), (.ls (some true) 1 [])])⟩, ⟨none, .st 5 (.t 10) (.t 41)⟩, ⟨none, .mv 11 (.t 42)⟩]) ((.seq ((.seq (.reg false [⟨none, .ld 43 true 5 (.t 10)⟩, ⟨none, .ld 44 true 5 (.t 6)⟩, ⟨none, .call (some 45) 19 [(.t 43), (.t 44)]⟩, ⟨none, .un 46 .not (.t 45)⟩, ⟨none, .mv 47 (.t 46)⟩, ⟨some (47, false), .mv 48 (.t 11)⟩, ⟨some (47, false), .mv 49 (.t 7)⟩, ⟨some (47, false), .bin 50 .neq (.t 48) (.t 49)⟩, ⟨none, .pick 51 (.t 47) (.c (.sc (.bool true))) (.t 50)⟩]) (.cond (.t 51) ((.seq (.reg false [⟨none, .mv 4 (.c (.sc (.bool false)))⟩]) (.ret))) (.skip)))) ((.seq ((.seq (.reg true [⟨none, .ld 52 true 5 (.t 8)⟩, ⟨none, .ld 53 true 5 (.t 2)⟩, ⟨none, .call (some 54) 16 [(.t 53)]⟩, ⟨none, .call (some 55) 19 [(.t 52), (.t 54)]⟩, ⟨none, .un 56 .not (.t 55)⟩]) (.cond (.t 56) ((.seq (.reg false [⟨none, .mv 4 (.c (.sc (.bool false)))⟩]) (.ret))) (.skip)))) ((.seq ((.seq (.reg false [⟨none, .mv 57 (.t 9)⟩, ⟨none, .mv 58 (.t 1)⟩, ⟨none, .call (some 59) 17 [(.t 58)]⟩, ⟨none, .call (some 60) 20 [(.t 57), (.t 59)]⟩, ⟨none, .un 61 .not (.t 60)⟩]) (.cond (.t 61) ((.seq (.reg false [⟨none, .mv 4 (.c (.sc (.bool false)))⟩]) (.ret))) (.skip)))) ((.seq (.reg false [⟨none, .mv 12 (.c (.sc (.int .i64 1)))⟩]) ((.seq (.reg false [⟨none, .ld 62 true 5 (.t 8)⟩, ⟨none, .mv 63 (.t 12)⟩, ⟨none, .mcl 64 21 (.t 62) (.t 63)⟩, ⟨none, .mv 12 (.t 64)⟩]) ((.seq (.reg false [⟨none, .mv 65 (.t 9)⟩, ⟨none, .mv 66 (.t 12)⟩, ⟨none, .mcl 67 22 (.t 65) (.t 66)⟩, ⟨none, .mv 12 (.t 67)⟩]) ((.seq ((.seq (.reg false [⟨none, .mv 68 (.t 12)⟩, ⟨none, .bin 69 .lss (.t 68) (.c (.sc (.int .i64 0)))⟩, ⟨none, .mv 70 (.t 69)⟩, ⟨some (70, false), .ld 71 true 5 (.t 10)⟩, ⟨some (70, false), .ld 72 true 5 (.t 6)⟩, ⟨some (70, false), .call (some 73) 19 [(.t 71), (.t 72)]⟩, ⟨some (70, false), .un 74 .not (.t 73)⟩, ⟨none, .pick 75 (.t 70) (.c (.sc (.bool true))) (.t 74)⟩, ⟨none, .mv 76 (.t 75)⟩, ⟨some (76, false), .mv 77 (.t 11)⟩, ⟨some (76, false), .mv 78 (.t 7)⟩, ⟨some (76, false), .bin 79 .neq (.t 77) (.t 78)⟩, ⟨none, .pick 80 (.t 76) (.c (.sc (.bool true))) (.t 79)⟩]) (.cond (.t 80) ((.seq (.reg false [⟨none, .mv 4 (.c (.sc (.bool false)))⟩]) (.ret))) (.skip)))) ((.seq (.reg false [⟨none, .mv 13 (.c (.sc (.int .i64 1)))⟩]) ((.seq (.reg false [⟨none, .ld 81 true 5 (.t 10)⟩, ⟨none, .mv 82 (.t 13)⟩, ⟨none, .mcl 83 21 (.t 81) (.t 82)⟩, ⟨none, .mv 13 (.t 83)⟩]) ((.seq (.reg false [⟨none, .mv 14 (.c (.sc (.int .i64 1)))⟩]) ((.seq (.reg false [⟨none, .ld 84 true 5 (.t 10)⟩, ⟨none, .mv 85 (.t 14)⟩, ⟨none, .call (some 86) 23 [(.t 84), (.t 85)]⟩, ⟨none, .mv 14 (.t 86)⟩]) ((.seq ((.seq (.reg false [⟨none, .mv 87 (.t 14)⟩, ⟨none, .bin 88 .lss (.t 87) (.c (.sc (.int .i64 0)))⟩]) (.cond (.t 88) ((.seq (.reg false [⟨none, .mv 4 (.c (.sc (.bool false)))⟩]) (.ret))) (.skip)))) ((.seq ((.seq (.reg false [⟨none, .mv 89 (.t 14)⟩, ⟨none, .mv 90 (.t 13)⟩, ⟨none, .bin 91 .neq (.t 89) (.t 90)⟩]) (.cond (.t 91) ((.seq (.reg false [⟨none, .mv 4 (.c (.sc (.bool false)))⟩]) (.ret))) (.skip)))) ((.seq (.reg false [⟨none, .ld 93 true 5 (.t 2)⟩, ⟨none, .call (some 94) 16 [(.t 93)]⟩, ⟨none, .mv 95 (.t 1)⟩, ⟨none, .call (some 96) 17 [(.t 95)]⟩, ⟨none, .call (some 97) 18 [(.t 94), (.t 96)]⟩, ⟨none, .mv 92 (.t 97)⟩, ⟨none, .ext 98 (.t 92) 0⟩, ⟨none, .ext 99 (.t 92) 1⟩, ⟨none, .zer 15 5 (.ag [(.sc (.int .i64 0)), (.sc (.int .i64 0)), (.sc (.int .i64 0)), (.ls (some true) 1 []), (.ls (some true) 1 [])])⟩, ⟨none, .st 5 (.t 15) (.t 98)⟩, ⟨none, .mv 16 (.t 99)⟩]) ((.seq ((.seq (.reg false [⟨none, .ld 100 true 5 (.t 15)⟩, ⟨none, .ld 101 true 5 (.t 6)⟩, ⟨none, .call (some 102) 19 [(.t 100), (.t 101)]⟩, ⟨none, .un 103 .not (.t 102)⟩, ⟨none, .mv 104 (.t 103)⟩, ⟨some (104, false), .mv 105 (.t 16)⟩, ⟨some (104, false), .mv 106 (.t 7)⟩, ⟨some (104, false), .bin 107 .neq (.t 105) (.t 106)⟩, ⟨none, .pick 108 (.t 104) (.c (.sc (.bool true))) (.t 107)⟩]) (.cond (.t 108) ((.seq (.reg false [⟨none, .mv 4 (.c (.sc (.bool false)))⟩]) (.ret))) (.skip)))) ((.seq (.reg false [⟨none, .mv 14 (.c (.sc (.int .i64 1)))⟩]) ((.seq (.reg false [⟨none, .ld 109 true 5 (.t 10)⟩, ⟨none, .mv 110 (.t 14)⟩, ⟨none, .call (some 111) 23 [(.t 109), (.t 110)]⟩, ⟨none, .mv 14 (.t 111)⟩]) ((.seq ((.seq (.reg false [⟨none, .mv 112 (.t 14)⟩, ⟨none, .bin 113 .lss (.t 112) (.c (.sc (.int .i64 0)))⟩]) (.cond (.t 113) ((.seq (.reg false [⟨none, .mv 4 (.c (.sc (.bool false)))⟩]) (.ret))) (.skip)))) ((.seq ((.seq (.reg false [⟨none, .mv 114 (.t 14)⟩, ⟨none, .mv 115 (.t 13)⟩, ⟨none, .bin 116 .neq (.t 114) (.t 115)⟩]) (.cond (.t 116) ((.seq (.reg false [⟨none, .mv 4 (.c (.sc (.bool false)))⟩]) (.ret))) (.skip)))) ((.seq (.reg false [⟨none, .mv 4 (.c (.sc (.bool true)))⟩]) (.ret))))))))))))))))))))))))))))))))))))))))))))))))))))))))))
theorem res3 : resF Try.prog 3 = some (117, rc3, [.t 4]) := by kernel_rfl
noncomputable def famBoolS : Fam Try.prog (eS 1 eB) 192 194 201 := famP mixed encB noB ⟨rfl, rfl, rfl⟩ (by omega) res192 res194 (eqL fun x y => x == y) (fun _ => eqL_refl fun _ _ => by simp) fun a b => af_eqB mixed res201 a b
theorem famBoolS_t (x) : famBoolS.t x = (some false, x.2) := rfl
noncomputable def famBoolSS : Fam Try.prog (eS 1 (eS 1 eB)) 89 94 102 := famC mixed famBoolS (encS eB 1) ⟨rfl, rfl, rfl⟩ (by omega) res89 res94 res102
theorem famBoolSS_t (x) : famBoolSS.t x = (some false, x.2.map famBoolS.t) := rfl
noncomputable def famBoolSSS : Fam Try.prog (eS 1 (eS 1 (eS 1 eB))) 90 95 103 := famC mixed famBoolSS (encS (eS 1 eB) 1) ⟨rfl, rfl, rfl⟩ (by omega) res90 res95 res103
theorem famBoolSSS_t (x) : famBoolSSS.t x = (some false, x.2.map famBoolSS.t) := rfl
noncomputable def szModel (m : Mo) : Int → Int := fun l => nx (famBoolSS.s m.2.2.1 l) (fun l => nx (famBoolSSS.s m.2.2.2 l) (fun l => l))
def fitModel (m : Mo) : Prop := famBoolSS.fit m.2.2.1 ∧ famBoolSSS.fit m.2.2.2
noncomputable def tModel (m : Mo) : Mo := (m.1, m.2.1, famBoolSS.t m.2.2.1, famBoolSSS.t m.2.2.2)
noncomputable def qModel (a b : Mo) : Bool := (qG a.1 b.1 && ((a.2.1 == b.2.1) && (famBoolSS.q a.2.2.1 b.2.2.1 && famBoolSSS.q a.2.2.2 b.2.2.2)))
theorem szModel_in (m : Mo) (l : Int) (h1 : 0 ≤ l) (h2 : l ≤ 1048576) : -1 ≤ szModel m l ∧ szModel m l ≤ l := by
 refine in_tr (Int.le_refl l) (nx_in (famBoolSS.s_in m.2.2.1 l h1 (by omega)) h1 (by omega) fun y0 a0 b0 => ?_)
 refine in_tr b0 (nx_in (famBoolSSS.s_in m.2.2.2 y0 a0 (by omega)) a0 (by omega) fun y1 a1 b1 => ?_)
 exact ⟨by omega, b1⟩
theorem szModel_fit (m : Mo) (l : Int) (h2 : l ≤ 1048576) (h1 : 0 ≤ l) (h : 0 ≤ szModel m l) : fitModel m := by
 obtain ⟨p0, h⟩ := nx_fit h
 have e0 := famBoolSS.s_fit m.2.2.1 l (by omega) h1 p0
 have b0 := famBoolSS.s_in m.2.2.1 l h1 (by omega)
 obtain ⟨p1, h⟩ := nx_fit h
 have e1 := famBoolSSS.s_fit m.2.2.2 _ (by omega) p0 p1
 have b1 := famBoolSSS.s_in m.2.2.2 (famBoolSS.s m.2.2.1 l) p0 (by omega)
 exact ⟨e0, e1⟩
theorem af14 (m : Mo) (l : Int) (h1 : 0 ≤ l) (h2 : l ≤ 1048576) : AF Try.prog 14 [eM m, eI l] (.own (eI (szModel m l))) := by
 refine af_of_res res14 mixed rfl fun _ => ?_
 simp +contextual -implicitDefEqProofs only [rc14, eM, eG, eS, go_sem, eI, eB, ↓reduceIte, Nat.reduceEqDiff, Nat.reduceAdd, Nat.reduceLeDiff, Nat.reduceMul, Nat.reduceBEq, Nat.reduceBneDiff, Nat.reduceLT, Nat.reduceSub]
 refine callQ_self ?_ (famBoolSS.afS m.2.2.1 l (by omega) (by omega)) ?_
 ·exact rfl
 simp +contextual -implicitDefEqProofs only [eM, eG, eS, go_sem, eI, eB, ↓reduceIte, Nat.reduceEqDiff, Nat.reduceAdd, Nat.reduceLeDiff, Nat.reduceMul, Nat.reduceBEq, Nat.reduceBneDiff, Nat.reduceLT, Nat.reduceSub]
 have b0 := famBoolSS.s_in m.2.2.1 l (by omega) (by omega)
 refine ⟨fun h => D.Le.sc_eq (by simp only [szModel]; rw [nx_neg h]), fun g0 => ?_⟩
 refine callQ_self ?_ (famBoolSSS.afS m.2.2.2 (famBoolSS.s m.2.2.1 l) (by omega) (by omega)) ?_
 ·exact rfl
 simp +contextual -implicitDefEqProofs only [eM, eG, eS, go_sem, eI, eB, ↓reduceIte, Nat.reduceEqDiff, Nat.reduceAdd, Nat.reduceLeDiff, Nat.reduceMul, Nat.reduceBEq, Nat.reduceBneDiff, Nat.reduceLT, Nat.reduceSub]
 have b1 := famBoolSSS.s_in m.2.2.2 (famBoolSS.s m.2.2.1 l) (by omega) (by omega)
 refine ⟨fun h => D.Le.sc_eq (by simp only [szModel]; rw [nx_pos g0, nx_neg h]), fun g1 => ?_⟩
 exact D.Le.sc_eq (by simp only [szModel]; rw [nx_pos g0, nx_pos g1])
theorem af16 (m : Mo) (h : fitModel m) : AF Try.prog 16 [eM m] (.own (eM (tModel m))) := by
 refine af_of_res res16 mixed rfl fun _ => ?_
 simp +contextual -implicitDefEqProofs only [rc16, eM, eG, eS, tModel, famBoolSS_t, famBoolSSS_t, go_sem, eI, eB, ↓reduceIte, Nat.reduceEqDiff, Nat.reduceAdd, Nat.reduceLeDiff, Nat.reduceMul, Nat.reduceBEq, Nat.reduceBneDiff, Nat.reduceLT, Nat.reduceSub]
 refine callQ_self ?_ (af26 m.1) ?_
 ·exact rfl
 simp +contextual -implicitDefEqProofs only [eM, eG, eS, tModel, famBoolSS_t, famBoolSSS_t, go_sem, eI, eB, ↓reduceIte, Nat.reduceEqDiff, Nat.reduceAdd, Nat.reduceLeDiff, Nat.reduceMul, Nat.reduceBEq, Nat.reduceBneDiff, Nat.reduceLT, Nat.reduceSub]
 refine callQ_self ?_ (famBoolSS.afT m.2.2.1 h.1) ?_
 ·exact rfl
 simp +contextual -implicitDefEqProofs only [eM, eG, eS, tModel, famBoolSS_t, famBoolSSS_t, go_sem, eI, eB, ↓reduceIte, Nat.reduceEqDiff, Nat.reduceAdd, Nat.reduceLeDiff, Nat.reduceMul, Nat.reduceBEq, Nat.reduceBneDiff, Nat.reduceLT, Nat.reduceSub]
 refine callQ_self ?_ (famBoolSSS.afT m.2.2.2 h.2) ?_
 ·exact rfl
 simp +contextual -implicitDefEqProofs only [eM, eG, eS, tModel, famBoolSS_t, famBoolSSS_t, go_sem, eI, eB, ↓reduceIte, Nat.reduceEqDiff, Nat.reduceAdd, Nat.reduceLeDiff, Nat.reduceMul, Nat.reduceBEq, Nat.reduceBneDiff, Nat.reduceLT, Nat.reduceSub]
theorem af19 (a b : Mo) : AF Try.prog 19 [eM a, eM b] (.own (eB (qModel a b))) := by
 refine af_of_res res19 mixed rfl fun _ => ?_
 simp +contextual -implicitDefEqProofs only [rc19, qModel, bne, Bool.not_true, Bool.not_false, Bool.true_and, Bool.false_and, Bool.and_true, Bool.and_false, eM, eG, eS, go_sem, eI, eB, ↓reduceIte, Nat.reduceEqDiff, Nat.reduceAdd, Nat.reduceLeDiff, Nat.reduceMul, Nat.reduceBEq, Nat.reduceBneDiff, Nat.reduceLT, Nat.reduceSub]
 refine callQ_self ?_ (af101 a.1 b.1) ?_
 ·exact rfl
 cases e0 : qG a.1 b.1
 ·simp +contextual -implicitDefEqProofs only [qModel, bne, Bool.not_true, Bool.not_false, Bool.true_and, Bool.false_and, Bool.and_true, Bool.and_false, eM, eG, eS, e0, go_sem, eI, eB, ↓reduceIte, Nat.reduceEqDiff, Nat.reduceAdd, Nat.reduceLeDiff, Nat.reduceMul, Nat.reduceBEq, Nat.reduceBneDiff, Nat.reduceLT, Nat.reduceSub]
 cases e1 : (a.2.1 == b.2.1)
 ·simp +contextual -implicitDefEqProofs only [qModel, bne, Bool.not_true, Bool.not_false, Bool.true_and, Bool.false_and, Bool.and_true, Bool.and_false, eM, eG, eS, e0, e1, go_sem, eI, eB, ↓reduceIte, Nat.reduceEqDiff, Nat.reduceAdd, Nat.reduceLeDiff, Nat.reduceMul, Nat.reduceBEq, Nat.reduceBneDiff, Nat.reduceLT, Nat.reduceSub]
 simp +contextual -implicitDefEqProofs only [qModel, bne, Bool.not_true, Bool.not_false, Bool.true_and, Bool.false_and, Bool.and_true, Bool.and_false, eM, eG, eS, e0, e1, go_sem, eI, eB, ↓reduceIte, Nat.reduceEqDiff, Nat.reduceAdd, Nat.reduceLeDiff, Nat.reduceMul, Nat.reduceBEq, Nat.reduceBneDiff, Nat.reduceLT, Nat.reduceSub]
 refine callQ_self ?_ (famBoolSS.afQ a.2.2.1 b.2.2.1) ?_
 ·exact rfl
 cases e2 : famBoolSS.q a.2.2.1 b.2.2.1
 ·simp +contextual -implicitDefEqProofs only [qModel, bne, Bool.not_true, Bool.not_false, Bool.true_and, Bool.false_and, Bool.and_true, Bool.and_false, eM, eG, eS, e0, e1, e2, go_sem, eI, eB, ↓reduceIte, Nat.reduceEqDiff, Nat.reduceAdd, Nat.reduceLeDiff, Nat.reduceMul, Nat.reduceBEq, Nat.reduceBneDiff, Nat.reduceLT, Nat.reduceSub]
 simp +contextual -implicitDefEqProofs only [qModel, bne, Bool.not_true, Bool.not_false, Bool.true_and, Bool.false_and, Bool.and_true, Bool.and_false, eM, eG, eS, e0, e1, e2, go_sem, eI, eB, ↓reduceIte, Nat.reduceEqDiff, Nat.reduceAdd, Nat.reduceLeDiff, Nat.reduceMul, Nat.reduceBEq, Nat.reduceBneDiff, Nat.reduceLT, Nat.reduceSub]
 refine callQ_self ?_ (famBoolSSS.afQ a.2.2.2 b.2.2.2) ?_
 ·exact rfl
 cases e3 : famBoolSSS.q a.2.2.2 b.2.2.2
 ·simp +contextual -implicitDefEqProofs only [qModel, bne, Bool.not_true, Bool.not_false, Bool.true_and, Bool.false_and, Bool.and_true, Bool.and_false, eM, eG, eS, e0, e1, e2, e3, go_sem, eI, eB, ↓reduceIte, Nat.reduceEqDiff, Nat.reduceAdd, Nat.reduceLeDiff, Nat.reduceMul, Nat.reduceBEq, Nat.reduceBneDiff, Nat.reduceLT, Nat.reduceSub]
 ·simp +contextual -implicitDefEqProofs only [qModel, bne, Bool.not_true, Bool.not_false, Bool.true_and, Bool.false_and, Bool.and_true, Bool.and_false, eM, eG, eS, e0, e1, e2, e3, go_sem, eI, eB, ↓reduceIte, Nat.reduceEqDiff, Nat.reduceAdd, Nat.reduceLeDiff, Nat.reduceMul, Nat.reduceBEq, Nat.reduceBneDiff, Nat.reduceLT, Nat.reduceSub]
theorem qModel_refl (m : Mo) : qModel m m = true := by simp [qModel, qG, famBoolSS.q_refl, famBoolSSS.q_refl]
noncomputable def famModel : Fam Try.prog eM 14 16 19 := ⟨szModel, tModel, qModel, fitModel, szModel_in, szModel_fit, qModel_refl, af14, af16, af19⟩
theorem famModel_t (x) : famModel.t x = tModel x := rfl
noncomputable def hfBoolS : HFam Try.prog (eS 1 eB) famBoolS.s famBoolS.t 202 203 := hfB mixed (fun _ _ => rfl) (fun _ => rfl) res202 res203
noncomputable def hfBoolSS : HFam Try.prog (eS 1 (eS 1 eB)) famBoolSS.s famBoolSS.t 104 106 := hfC mixed famBoolS (encS eB 1) hfBoolS (fun _ => rfl) res104 res106
noncomputable def hfBoolSSS : HFam Try.prog (eS 1 (eS 1 (eS 1 eB))) famBoolSSS.s famBoolSSS.t 105 107 := hfC mixed famBoolSS (encS (eS 1 eB) 1) hfBoolSS (fun _ => rfl) res105 res107
noncomputable def mrkModel (m : Mo) (k : Int) : Mo := (m.1, m.2.1, hfBoolSS.mrk m.2.2.1 k, hfBoolSSS.mrk m.2.2.2 (k + hfBoolSS.cnt m.2.2.1))
noncomputable def cntModel (m : Mo) : Nat := hfBoolSS.cnt m.2.2.1 + hfBoolSSS.cnt m.2.2.2
theorem mk_Model (m : Mo) (k : Int) (h0 : 0 ≤ k) (h1 : k + cntModel m ≤ maxK) : AFM Try.prog 21 (eM m) k (eM (mrkModel m k)) (k + cntModel m) := by
 unfold cntModel at h1 ⊢
 refine afm_ag res21 (by omega) rfl fun hbd => ?_
 simp +contextual -implicitDefEqProofs only [rc21, eM, eG, eS, eI, D.at, D.sub, D.put, D.cells, D.size, D.sizeL, D.isAg, go_sem, eB, ↓reduceIte, Nat.reduceEqDiff, Nat.reduceAdd, Nat.reduceLeDiff, Nat.reduceMul, Nat.reduceBEq, Nat.reduceBneDiff, Nat.reduceLT, Nat.reduceSub, Int.ofNat_lt, List.length_map, Int.natCast_nonneg]
 refine mMcl_self (e' := eS 1 (eS 1 eB) (hfBoolSS.mrk m.2.2.1 k)) (n' := k + hfBoolSS.cnt m.2.2.1) ?_ rfl (.inr rfl) ?_
 ·exact hfBoolSS.afM m.2.2.1 k (by omega) (by omega)
 simp +contextual -implicitDefEqProofs only [eM, eG, eS, eI, D.at, D.sub, D.put, D.cells, D.size, D.sizeL, D.isAg, mrkModel, go_sem, eB, ↓reduceIte, Nat.reduceEqDiff, Nat.reduceAdd, Nat.reduceLeDiff, Nat.reduceMul, Nat.reduceBEq, Nat.reduceBneDiff, Nat.reduceLT, Nat.reduceSub, Int.ofNat_lt, List.length_map, Int.natCast_nonneg]
 refine mMcl_self (e' := eS 1 (eS 1 (eS 1 eB)) (hfBoolSSS.mrk m.2.2.2 (k + hfBoolSS.cnt m.2.2.1))) (n' := k + hfBoolSS.cnt m.2.2.1 + hfBoolSSS.cnt m.2.2.2) ?_ rfl (.inr rfl) ?_
 ·exact hfBoolSSS.afM m.2.2.2 (k + hfBoolSS.cnt m.2.2.1) (by omega) (by omega)
 simp +contextual -implicitDefEqProofs only [eM, eG, eS, eI, D.at, D.sub, D.put, D.cells, D.size, D.sizeL, D.isAg, mrkModel, go_sem, eB, ↓reduceIte, Nat.reduceEqDiff, Nat.reduceAdd, Nat.reduceLeDiff, Nat.reduceMul, Nat.reduceBEq, Nat.reduceBneDiff, Nat.reduceLT, Nat.reduceSub, Int.ofNat_lt, List.length_map, Int.natCast_nonneg]
 try simp only [Int.natCast_add, Int.add_assoc]
 try trivial
theorem hd_Model (m : Mo) (k : Int) (h0 : 0 ≤ k) (h1 : k + cntModel m ≤ maxK) : AF Try.prog 23 [eM (mrkModel m k), eI k] (.own (eI (k + cntModel m))) := by
 unfold cntModel at h1 ⊢
 unfold maxK at h1
 refine af_of_res res23 mixed rfl fun hbd => ?_
 simp +contextual -implicitDefEqProofs only [rc23, eM, eG, eS, mrkModel, eI, D.at, D.sub, D.put, D.cells, D.size, D.sizeL, D.isAg, go_sem, eB, ↓reduceIte, Nat.reduceEqDiff, Nat.reduceAdd, Nat.reduceLeDiff, Nat.reduceMul, Nat.reduceBEq, Nat.reduceBneDiff, Nat.reduceLT, Nat.reduceSub, Int.ofNat_lt, List.length_map, Int.natCast_nonneg]
 refine callQ_self (ds := [eS 1 (eS 1 eB) (hfBoolSS.mrk m.2.2.1 k), eI k]) (by rfl) (hfBoolSS.afH m.2.2.1 k (by omega) (by unfold maxK; omega)) ?_
 have n0 : ¬ (k + hfBoolSS.cnt m.2.2.1 < 0) := by omega
 simp +contextual -implicitDefEqProofs only [n0, eM, eG, eS, mrkModel, eI, D.at, D.sub, D.put, D.cells, D.size, D.sizeL, D.isAg, go_sem, eB, ↓reduceIte, Nat.reduceEqDiff, Nat.reduceAdd, Nat.reduceLeDiff, Nat.reduceMul, Nat.reduceBEq, Nat.reduceBneDiff, Nat.reduceLT, Nat.reduceSub, Int.ofNat_lt, List.length_map, Int.natCast_nonneg]
 refine callQ_self (ds := [eS 1 (eS 1 (eS 1 eB)) (hfBoolSSS.mrk m.2.2.2 (k + hfBoolSS.cnt m.2.2.1)), eI (k + hfBoolSS.cnt m.2.2.1)]) (by rfl) (hfBoolSSS.afH m.2.2.2 (k + hfBoolSS.cnt m.2.2.1) (by omega) (by unfold maxK; omega)) ?_
 have n1 : ¬ (k + hfBoolSS.cnt m.2.2.1 + hfBoolSSS.cnt m.2.2.2 < 0) := by omega
 simp +contextual -implicitDefEqProofs only [n1, eM, eG, eS, mrkModel, eI, D.at, D.sub, D.put, D.cells, D.size, D.sizeL, D.isAg, go_sem, eB, ↓reduceIte, Nat.reduceEqDiff, Nat.reduceAdd, Nat.reduceLeDiff, Nat.reduceMul, Nat.reduceBEq, Nat.reduceBneDiff, Nat.reduceLT, Nat.reduceSub, Int.ofNat_lt, List.length_map, Int.natCast_nonneg]
 try exact D.Le.sc_eq (by simp only [Int.natCast_add, Int.add_assoc])
noncomputable def hfModel : HFam Try.prog eM szModel tModel 21 23 where
 mrk := mrkModel
 cnt := cntModel
 cnt_s m l h1 h2 h := by
  unfold szModel at h ⊢
  unfold cntModel
  obtain ⟨p0, h⟩ := nx_fit h
  rw [nx_pos (by omega)]
  have b0 := famBoolSS.s_in m.2.2.1 l (by omega) (by omega)
  have c0 := hfBoolSS.cnt_s m.2.2.1 l (by omega) (by omega) p0
  obtain ⟨p1, h⟩ := nx_fit h
  rw [nx_pos (by omega)]
  have b1 := famBoolSSS.s_in m.2.2.2 (famBoolSS.s m.2.2.1 l) (by omega) (by omega)
  have c1 := hfBoolSSS.cnt_s m.2.2.2 (famBoolSS.s m.2.2.1 l) (by omega) (by omega) p1
  push_cast
  omega
 cnt_t m := by unfold cntModel tModel; simp only [hfBoolSS.cnt_t, hfBoolSSS.cnt_t]
 afM := mk_Model
 afH := hd_Model

theorem renum_cnt (m : Mo) (l : List Int) : hfModel.cnt (renumM m l).1 ≤ 2000000000 := by
 unfold renumM
 split
 ·next ho =>
  split
  ·next hs =>
   have hp := pick_srt ho hs.2
   have h1 := hp.small
   have h2 := hp.st
   have h3 := hp.sa
   have r1 : cntL (fun x : SL Bool => x.2.length) ((m.2.2.1.2).map fun r => tRow r l) ≤ _ := cntL_bd (c := 1000) (fun x hx => by obtain ⟨r, _, rfl⟩ := List.mem_map.1 hx; simpa [tRow] using h1)
   have r2 : cntL (fun x : SL (SL Bool) => cntL (fun x : SL Bool => x.2.length) x.2) ((m.2.2.2.2).map fun a => aTab a l) ≤ _ := cntL_bd (c := 1000000) (fun x hx => by
    obtain ⟨a, _, rfl⟩ := List.mem_map.1 hx
    have := cntL_bd (cnt := fun x : SL Bool => x.2.length) (l := (aTab a l).2) (c := 1000) (fun x hx => by obtain ⟨r, _, rfl⟩ := List.mem_map.1 hx; simpa [tRow] using h1)
    have hl : (aTab a l).2.length ≤ 1000 := by simpa [aTab] using h1
    omega)
   simp only [List.length_map] at r1 r2
   show cntL (fun x : SL Bool => x.2.length) ((m.2.2.1.2).map fun r => tRow r l) + cntL (fun x : SL (SL Bool) => cntL (fun x : SL Bool => x.2.length) x.2) ((m.2.2.2.2).map fun a => aTab a l) ≤ _
   omega
  ·exact Nat.zero_le _
 ·exact Nat.zero_le _
theorem law (m : Mo) (s : SL Int) : AF Try.prog 3 [eM m, eS 1 eI s] (.own (eB true)) := by
 obtain ⟨nn, xs⟩ := s
 refine af_of_res res3 mixed rfl fun hbd => ?_
 simp +contextual -implicitDefEqProofs only [rc3, eM, eG, eS, famModel_t, tModel, famBoolSS_t, famBoolSSS_t, bne_self_eq_false, go_sem, eI, eB, ↓reduceIte, Nat.reduceEqDiff, Nat.reduceAdd, Nat.reduceLeDiff, Nat.reduceMul, Nat.reduceBEq, Nat.reduceBneDiff, Nat.reduceLT, Nat.reduceSub]
 refine fun hpl => ?_
 refine callQ_self (ds := [eM m, eI 1048576]) ?_ (famModel.afS m 1048576 (by omega) (by omega)) ?_
 ·simp only [eM, eG, eS, famModel_t, tModel, famBoolSS_t, famBoolSSS_t, bne_self_eq_false]; exact rfl
 simp +contextual -implicitDefEqProofs only [eM, eG, eS, famModel_t, tModel, famBoolSS_t, famBoolSSS_t, bne_self_eq_false, go_sem, eI, eB, ↓reduceIte, Nat.reduceEqDiff, Nat.reduceAdd, Nat.reduceLeDiff, Nat.reduceMul, Nat.reduceBEq, Nat.reduceBneDiff, Nat.reduceLT, Nat.reduceSub]
 have sb0 := famModel.s_in m 1048576 (by omega) (by omega)
 refine fun hs0 => ?_
 have hf0 := famModel.s_fit m 1048576 (by omega) (by omega) (by omega)
 refine callQ_self (ds := [eM m]) ?_ (famModel.afT m hf0) ?_
 ·simp only [eM, eG, eS, famModel_t, tModel, famBoolSS_t, famBoolSSS_t, bne_self_eq_false]; exact rfl
 simp +contextual -implicitDefEqProofs only [eM, eG, eS, famModel_t, tModel, famBoolSS_t, famBoolSSS_t, bne_self_eq_false, go_sem, eI, eB, ↓reduceIte, Nat.reduceEqDiff, Nat.reduceAdd, Nat.reduceLeDiff, Nat.reduceMul, Nat.reduceBEq, Nat.reduceBneDiff, Nat.reduceLT, Nat.reduceSub]
 refine callQ_self (ds := [eS 1 eI (nn, xs)]) ?_ (af_toS mixed encI noI ⟨rfl, rfl, rfl⟩ res17 (nn, xs) ⟨by show 8 * xs.length ≤ _; omega, by show xs.length ≤ _; omega⟩) ?_
 ·simp only [eM, eG, eS, famModel_t, tModel, famBoolSS_t, famBoolSSS_t, bne_self_eq_false]; exact rfl
 simp +contextual -implicitDefEqProofs only [eM, eG, eS, famModel_t, tModel, famBoolSS_t, famBoolSSS_t, bne_self_eq_false, go_sem, eI, eB, ↓reduceIte, Nat.reduceEqDiff, Nat.reduceAdd, Nat.reduceLeDiff, Nat.reduceMul, Nat.reduceBEq, Nat.reduceBneDiff, Nat.reduceLT, Nat.reduceSub]
 have hsp := af15 (famModel.t m) xs (by omega)
 have him := af18 (famModel.t m) xs (by omega)
 have hqI := af_eqS mixed res20 (some false, xs) (some false, xs)
 rw [eqL_refl (fun _ _ => by simp)] at hqI
 have hqM := fun x => famModel.afQ x x
 simp only [famModel.q_refl] at hqM
 have hc0 : (hfModel.cnt (famModel.t m) : Int) ≤ 8388608 := by
  have h := hfModel.cnt_s m 1048576 (by omega) (by omega) (Int.not_lt.1 hs0)
  have e : hfModel.cnt (famModel.t m) = hfModel.cnt m := hfModel.cnt_t m
  have h' : 0 ≤ szModel m 1048576 := Int.not_lt.1 hs0
  rw [e]; omega
 have hc1 := renum_cnt (famModel.t m) xs
 have hmrk : ∀ m k, hfModel.mrk m k = mrkModel m k := fun _ _ => rfl
 generalize renumM (famModel.t m) xs = r at hsp him hc1
 obtain ⟨r, c⟩ := r
 simp only at hsp him hc1
 have hM0 := hfModel.afM (famModel.t m) 1 (by omega) (by unfold maxK; omega)
 generalize hfModel.cnt (famModel.t m) = cT at hM0 hc0
 generalize hfModel.mrk (famModel.t m) 1 = mT at hM0
 have hM1 := hfModel.afM r 1 (by omega) (by unfold maxK; omega)
 have hH1 := hfModel.afH r 1 (by omega) (by unfold maxK; omega)
 generalize hfModel.cnt r = cR at hM1 hH1 hc1
 generalize hfModel.mrk r 1 = mR at hM1 hH1
 have hmI := af_mkI res22 (some false) xs (1 + cT) (by omega) (by rw [cntL_one]; unfold maxK; omega)
 rw [cntL_one] at hmI
 have hk0 : ¬ (1 + (cT : Int) + (xs.length : Int) < 0) := by omega
 have hk1 : ¬ (1 + (cR : Int) < 0) := by omega
 refine callQ_self (ds := [eM (famModel.t m), eS 1 eI (some false, xs)]) ?_ (hsp) ?_
 ·simp only [eM, eG, eS, famModel_t, tModel, famBoolSS_t, famBoolSSS_t, bne_self_eq_false]; exact rfl
 simp +contextual -implicitDefEqProofs only [eM, eG, eS, famModel_t, tModel, famBoolSS_t, famBoolSSS_t, bne_self_eq_false, go_sem, eI, eB, ↓reduceIte, Nat.reduceEqDiff, Nat.reduceAdd, Nat.reduceLeDiff, Nat.reduceMul, Nat.reduceBEq, Nat.reduceBneDiff, Nat.reduceLT, Nat.reduceSub]
 refine callQ_self (ds := [eM m]) ?_ (famModel.afT m hf0) ?_
 ·simp only [eM, eG, eS, famModel_t, tModel, famBoolSS_t, famBoolSSS_t, bne_self_eq_false]; exact rfl
 simp +contextual -implicitDefEqProofs only [eM, eG, eS, famModel_t, tModel, famBoolSS_t, famBoolSSS_t, bne_self_eq_false, go_sem, eI, eB, ↓reduceIte, Nat.reduceEqDiff, Nat.reduceAdd, Nat.reduceLeDiff, Nat.reduceMul, Nat.reduceBEq, Nat.reduceBneDiff, Nat.reduceLT, Nat.reduceSub]
 refine callQ_self (ds := [eS 1 eI (nn, xs)]) ?_ (af_toS mixed encI noI ⟨rfl, rfl, rfl⟩ res17 (nn, xs) ⟨by show 8 * xs.length ≤ _; omega, by show xs.length ≤ _; omega⟩) ?_
 ·simp only [eM, eG, eS, famModel_t, tModel, famBoolSS_t, famBoolSSS_t, bne_self_eq_false]; exact rfl
 simp +contextual -implicitDefEqProofs only [eM, eG, eS, famModel_t, tModel, famBoolSS_t, famBoolSSS_t, bne_self_eq_false, go_sem, eI, eB, ↓reduceIte, Nat.reduceEqDiff, Nat.reduceAdd, Nat.reduceLeDiff, Nat.reduceMul, Nat.reduceBEq, Nat.reduceBneDiff, Nat.reduceLT, Nat.reduceSub]
 refine callQ_self (ds := [eM (famModel.t m), eS 1 eI (some false, xs)]) ?_ (him) ?_
 ·simp only [eM, eG, eS, famModel_t, tModel, famBoolSS_t, famBoolSSS_t, bne_self_eq_false]; exact rfl
 simp +contextual -implicitDefEqProofs only [eM, eG, eS, famModel_t, tModel, famBoolSS_t, famBoolSSS_t, bne_self_eq_false, go_sem, eI, eB, ↓reduceIte, Nat.reduceEqDiff, Nat.reduceAdd, Nat.reduceLeDiff, Nat.reduceMul, Nat.reduceBEq, Nat.reduceBneDiff, Nat.reduceLT, Nat.reduceSub]
 refine callQ_self (ds := [eM r, eM r]) ?_ (hqM r) ?_
 ·simp only [eM, eG, eS, famModel_t, tModel, famBoolSS_t, famBoolSSS_t, bne_self_eq_false]; exact rfl
 simp +contextual -implicitDefEqProofs only [Bool.not_true, eM, eG, eS, famModel_t, tModel, famBoolSS_t, famBoolSSS_t, bne_self_eq_false, go_sem, eI, eB, ↓reduceIte, Nat.reduceEqDiff, Nat.reduceAdd, Nat.reduceLeDiff, Nat.reduceMul, Nat.reduceBEq, Nat.reduceBneDiff, Nat.reduceLT, Nat.reduceSub]
 refine callQ_self (ds := [eM m]) ?_ (famModel.afT m hf0) ?_
 ·simp only [eM, eG, eS, famModel_t, tModel, famBoolSS_t, famBoolSSS_t, bne_self_eq_false]; exact rfl
 simp +contextual -implicitDefEqProofs only [eM, eG, eS, famModel_t, tModel, famBoolSS_t, famBoolSSS_t, bne_self_eq_false, go_sem, eI, eB, ↓reduceIte, Nat.reduceEqDiff, Nat.reduceAdd, Nat.reduceLeDiff, Nat.reduceMul, Nat.reduceBEq, Nat.reduceBneDiff, Nat.reduceLT, Nat.reduceSub]
 refine callQ_self (ds := [eM (famModel.t m), eM (famModel.t m)]) ?_ (hqM (famModel.t m)) ?_
 ·simp only [eM, eG, eS, famModel_t, tModel, famBoolSS_t, famBoolSSS_t, bne_self_eq_false]; exact rfl
 simp +contextual -implicitDefEqProofs only [Bool.not_true, eM, eG, eS, famModel_t, tModel, famBoolSS_t, famBoolSSS_t, bne_self_eq_false, go_sem, eI, eB, ↓reduceIte, Nat.reduceEqDiff, Nat.reduceAdd, Nat.reduceLeDiff, Nat.reduceMul, Nat.reduceBEq, Nat.reduceBneDiff, Nat.reduceLT, Nat.reduceSub]
 refine callQ_self (ds := [eS 1 eI (nn, xs)]) ?_ (af_toS mixed encI noI ⟨rfl, rfl, rfl⟩ res17 (nn, xs) ⟨by show 8 * xs.length ≤ _; omega, by show xs.length ≤ _; omega⟩) ?_
 ·simp only [eM, eG, eS, famModel_t, tModel, famBoolSS_t, famBoolSSS_t, bne_self_eq_false]; exact rfl
 simp +contextual -implicitDefEqProofs only [eM, eG, eS, famModel_t, tModel, famBoolSS_t, famBoolSSS_t, bne_self_eq_false, go_sem, eI, eB, ↓reduceIte, Nat.reduceEqDiff, Nat.reduceAdd, Nat.reduceLeDiff, Nat.reduceMul, Nat.reduceBEq, Nat.reduceBneDiff, Nat.reduceLT, Nat.reduceSub]
 refine callQ_self (ds := [eS 1 eI (some false, xs), eS 1 eI (some false, xs)]) ?_ (hqI) ?_
 ·simp only [eM, eG, eS, famModel_t, tModel, famBoolSS_t, famBoolSSS_t, bne_self_eq_false]; exact rfl
 simp +contextual -implicitDefEqProofs only [Bool.not_true, eM, eG, eS, famModel_t, tModel, famBoolSS_t, famBoolSSS_t, bne_self_eq_false, go_sem, eI, eB, ↓reduceIte, Nat.reduceEqDiff, Nat.reduceAdd, Nat.reduceLeDiff, Nat.reduceMul, Nat.reduceBEq, Nat.reduceBneDiff, Nat.reduceLT, Nat.reduceSub]
 refine ⟨eM mT, 1 + cT, hM0, ⟨rfl, fun _ => rfl, rfl⟩, ?_⟩
 simp +contextual -implicitDefEqProofs only [eM, eG, eS, eI, eB, D.at, D.sub, D.put, D.cells, D.size, D.sizeL, D.isAg, famModel_t, tModel, famBoolSS_t, famBoolSSS_t, bne_self_eq_false, go_sem, ↓reduceIte, Nat.reduceEqDiff, Nat.reduceAdd, Nat.reduceLeDiff, Nat.reduceMul, Nat.reduceBEq, Nat.reduceBneDiff, Nat.reduceLT, Nat.reduceSub]
 refine ⟨.ls (some false) 1 ((mkL mkI one xs (1 + cT)).map eI), 1 + cT + xs.length, hmI, rfl, ?_⟩
 simp +contextual -implicitDefEqProofs only [hk0, eM, eG, eS, eI, eB, D.at, D.sub, D.put, D.cells, D.size, D.sizeL, D.isAg, famModel_t, tModel, famBoolSS_t, famBoolSSS_t, bne_self_eq_false, go_sem, ↓reduceIte, Nat.reduceEqDiff, Nat.reduceAdd, Nat.reduceLeDiff, Nat.reduceMul, Nat.reduceBEq, Nat.reduceBneDiff, Nat.reduceLT, Nat.reduceSub]
 refine callQ_self (ds := [eM r, eM r]) ?_ (hqM r) ?_
 ·simp only [eM, eG, eS, famModel_t, tModel, famBoolSS_t, famBoolSSS_t, bne_self_eq_false]; exact rfl
 simp +contextual -implicitDefEqProofs only [Bool.not_true, eM, eG, eS, famModel_t, tModel, famBoolSS_t, famBoolSSS_t, bne_self_eq_false, go_sem, eI, eB, ↓reduceIte, Nat.reduceEqDiff, Nat.reduceAdd, Nat.reduceLeDiff, Nat.reduceMul, Nat.reduceBEq, Nat.reduceBneDiff, Nat.reduceLT, Nat.reduceSub]
 refine ⟨eM mR, 1 + cR, hM1, ⟨rfl, fun _ => rfl, rfl⟩, ?_⟩
 simp +contextual -implicitDefEqProofs only [eM, eG, eS, eI, eB, D.at, D.sub, D.put, D.cells, D.size, D.sizeL, D.isAg, famModel_t, tModel, famBoolSS_t, famBoolSSS_t, bne_self_eq_false, go_sem, ↓reduceIte, Nat.reduceEqDiff, Nat.reduceAdd, Nat.reduceLeDiff, Nat.reduceMul, Nat.reduceBEq, Nat.reduceBneDiff, Nat.reduceLT, Nat.reduceSub]
 refine callQ_self (ds := [eM mR, eI 1]) ?_ (hH1) ?_
 ·simp only [eM, eG, eS, famModel_t, tModel, famBoolSS_t, famBoolSSS_t, bne_self_eq_false]; exact rfl
 simp +contextual -implicitDefEqProofs only [hk1, eM, eG, eS, famModel_t, tModel, famBoolSS_t, famBoolSSS_t, bne_self_eq_false, go_sem, eI, eB, ↓reduceIte, Nat.reduceEqDiff, Nat.reduceAdd, Nat.reduceLeDiff, Nat.reduceMul, Nat.reduceBEq, Nat.reduceBneDiff, Nat.reduceLT, Nat.reduceSub]
 refine callQ_self (ds := [eM m]) ?_ (famModel.afT m hf0) ?_
 ·simp only [eM, eG, eS, famModel_t, tModel, famBoolSS_t, famBoolSSS_t, bne_self_eq_false]; exact rfl
 simp +contextual -implicitDefEqProofs only [eM, eG, eS, famModel_t, tModel, famBoolSS_t, famBoolSSS_t, bne_self_eq_false, go_sem, eI, eB, ↓reduceIte, Nat.reduceEqDiff, Nat.reduceAdd, Nat.reduceLeDiff, Nat.reduceMul, Nat.reduceBEq, Nat.reduceBneDiff, Nat.reduceLT, Nat.reduceSub]
 refine callQ_self (ds := [eS 1 eI (nn, xs)]) ?_ (af_toS mixed encI noI ⟨rfl, rfl, rfl⟩ res17 (nn, xs) ⟨by show 8 * xs.length ≤ _; omega, by show xs.length ≤ _; omega⟩) ?_
 ·simp only [eM, eG, eS, famModel_t, tModel, famBoolSS_t, famBoolSSS_t, bne_self_eq_false]; exact rfl
 simp +contextual -implicitDefEqProofs only [eM, eG, eS, famModel_t, tModel, famBoolSS_t, famBoolSSS_t, bne_self_eq_false, go_sem, eI, eB, ↓reduceIte, Nat.reduceEqDiff, Nat.reduceAdd, Nat.reduceLeDiff, Nat.reduceMul, Nat.reduceBEq, Nat.reduceBneDiff, Nat.reduceLT, Nat.reduceSub]
 refine callQ_self (ds := [eM (famModel.t m), eS 1 eI (some false, xs)]) ?_ (him) ?_
 ·simp only [eM, eG, eS, famModel_t, tModel, famBoolSS_t, famBoolSSS_t, bne_self_eq_false]; exact rfl
 simp +contextual -implicitDefEqProofs only [eM, eG, eS, famModel_t, tModel, famBoolSS_t, famBoolSSS_t, bne_self_eq_false, go_sem, eI, eB, ↓reduceIte, Nat.reduceEqDiff, Nat.reduceAdd, Nat.reduceLeDiff, Nat.reduceMul, Nat.reduceBEq, Nat.reduceBneDiff, Nat.reduceLT, Nat.reduceSub]
 refine callQ_self (ds := [eM r, eM r]) ?_ (hqM r) ?_
 ·simp only [eM, eG, eS, famModel_t, tModel, famBoolSS_t, famBoolSSS_t, bne_self_eq_false]; exact rfl
 simp +contextual -implicitDefEqProofs only [Bool.not_true, eM, eG, eS, famModel_t, tModel, famBoolSS_t, famBoolSSS_t, bne_self_eq_false, go_sem, eI, eB, ↓reduceIte, Nat.reduceEqDiff, Nat.reduceAdd, Nat.reduceLeDiff, Nat.reduceMul, Nat.reduceBEq, Nat.reduceBneDiff, Nat.reduceLT, Nat.reduceSub]
 refine callQ_self (ds := [eM mR, eI 1]) ?_ (hH1) ?_
 ·simp only [eM, eG, eS, famModel_t, tModel, famBoolSS_t, famBoolSSS_t, bne_self_eq_false]; exact rfl
 simp +contextual -implicitDefEqProofs only [hk1, eM, eG, eS, famModel_t, tModel, famBoolSS_t, famBoolSSS_t, bne_self_eq_false, go_sem, eI, eB, ↓reduceIte, Nat.reduceEqDiff, Nat.reduceAdd, Nat.reduceLeDiff, Nat.reduceMul, Nat.reduceBEq, Nat.reduceBneDiff, Nat.reduceLT, Nat.reduceSub]
end Go.Ax
