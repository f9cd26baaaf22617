/- Contracts of functions of the seat, proved over the engine. No condition. -/
import Derived.Test.YtmcbkgcnlopjiaaXxC
set_option linter.unusedSimpArgs false
set_option linter.unusedVariables false
set_option linter.unnecessarySimpa false
namespace Go.Ax
set_option maxRecDepth 20000
set_option maxHeartbeats 4000000
theorem fitE_cp : ∀ e : Ex, fitE e → fitE (cpE e) := Ex.ind fun k n nn ks ih h => by
 rw [fitE_mk] at h
 rw [cpE_mk, fitE_mk]
 refine ⟨by simpa using h.1, fun x hx => ?_⟩
 obtain ⟨y, hy, rfl⟩ := List.mem_map.1 hx
 exact ih y hy (h.2 y hy)
theorem fitP_cp : ∀ e : Pg, fitP e → fitP (cpP e) := Pg.ind fun k n c nn ks ih h => by
 rw [fitP_mk] at h
 rw [cpP_mk, fitP_mk]
 refine ⟨fitE_cp _ h.1, by simpa using h.2.1, fun x hx => ?_⟩
 obtain ⟨y, hy, rfl⟩ := List.mem_map.1 hx
 exact ih y hy (h.2.2 y hy)
theorem fitE_z {k : Int} : fitE (.mk k 0 (some true) []) := (fitE_mk _ _ _ _).2 ⟨by simp, by simp⟩
theorem fitE_1 {k : Int} {a : Ex} (ha : fitE a) : fitE (.mk k 0 (some false) [a]) := (fitE_mk _ _ _ _).2 ⟨by simp, by simpa using ha⟩
theorem fitE_2 {k : Int} {a b : Ex} (ha : fitE a) (hb : fitE b) : fitE (.mk k 0 (some false) [a, b]) := (fitE_mk _ _ _ _).2 ⟨by simp, by simpa using ⟨ha, hb⟩⟩
theorem fitP_z {k : Int} : fitP (.mk k 0 (.mk 0 0 (some true) []) (some true) []) := (fitP_mk _ _ _ _ _).2 ⟨fitE_z, by simp, by simp⟩
theorem fitP_sq {a b : Pg} (ha : fitP a) (hb : fitP b) : fitP (sqP a b) := (fitP_mk _ _ _ _ _).2 ⟨fitE_z, by simp, by simpa using ⟨ha, hb⟩⟩
theorem fitP_if {c : Ex} {a b : Pg} (hc : fitE c) (ha : fitP a) (hb : fitP b) : fitP (ifP c a b) := (fitP_mk _ _ _ _ _).2 ⟨hc, by simp, by simpa using ⟨ha, hb⟩⟩
theorem fitP_wh {c : Ex} {a : Pg} (hc : fitE c) (ha : fitP a) : fitP (whP c a) := (fitP_mk _ _ _ _ _).2 ⟨hc, by simp, by simpa using ha⟩

def k_l06Loops (f1 f2 f3 f4 f5 f6 f7 f8 f9 : Nat) : RC := (.seq (.r [.o (.zer 4 6 .zp), .v 5 .cf]) (.seq (.seq (.r [.m 10 0, .c 11 f1 [.t 10, .ci 7], .o (.un 12 .not (.t 11))]) (.cond (.t 12) (.seq (.r [.o (.bld 13 .zp []), .s 6 4 13, .v 5 .cf]) .ret) .skip)) (.seq (.r [.m 14 0, .n 15 14, .f 16 5 15, .l 17 1 16, .i 18 6 17 0, .m 6 18]) (.seq (.seq (.r [.m 19 1]) (.blk 0 (.seq (.r [.q 21 19 1, .m 20 21]) (.cond (.t 20) (.seq (.reg true [.m 22 0, .n 23 22, .f 24 2 23, .L 25 3 24, .m 26 6, .n 27 26, .L 28 6 27, .m 29 0, .n 30 29, .L 31 6 30, .c 32 f2 [.t 28, .t 31], .c 33 f3 [], .c 34 f4 [.t 25, .t 32, .t 33], .s 6 4 34, .v 5 .ct]) .ret) (.seq (.r [.q 36 19 10, .m 35 36]) (.cond (.t 35) (.seq (.r [.m 37 6, .c 38 f1 [.t 37, .ci 5], .m 39 38, .wm 39 40 6, .w 39 (.nck 41 (.t 40)), .w 39 (.fa 42 5 (.t 41)), .w 39 (.ld 43 false 1 (.t 42)), .w 39 (.ia 44 6 (.t 43) (.ci 1)), .w 39 (.call (some 45) f1 [.t 44, .ci 7]), .k 46 39 45]) (.cond (.t 46) (.seq (.r [.m 47 6, .n 48 47, .f 49 5 48, .l 50 1 49, .i 51 6 50 1, .m 7 51]) (.seq (.reg true [.m 52 0, .n 53 52, .f 54 2 53, .c 55 f5 [.t 54], .m 56 7, .n 57 56, .f 58 2 57, .c 59 f5 [.t 58], .c 60 f6 [.ci 6, .t 55, .t 59], .o (.zer 8 3 .ze), .s 3 8 60]) (.seq (.reg true [.m 61 7, .n 62 61, .f 63 2 62, .L 64 3 63, .m 65 7, .n 66 65, .f 67 5 66, .l 68 1 67, .i 69 6 68 0, .L 70 6 69, .m 71 6, .n 72 71, .f 73 5 72, .l 74 1 73, .i 75 6 74 0, .L 76 6 75, .c 77 f4 [.t 64, .t 70, .t 76], .o (.zer 9 6 .zp), .s 6 9 77]) (.seq (.reg true [.m 78 0, .n 79 78, .f 80 2 79, .L 81 3 80, .m 82 6, .n 83 82, .f 84 5 83, .l 85 1 84, .i 86 6 85 0, .L 87 6 86, .L 88 3 8, .L 89 6 9, .c 90 f7 [.t 88, .t 89], .c 91 f2 [.t 87, .t 90], .c 92 f3 [], .c 93 f4 [.t 81, .t 91, .t 92], .s 6 4 93, .v 5 .ct]) .ret)))) .skip)) (.seq (.r [.q 95 19 11, .m 94 95]) (.cond (.t 94) (.seq (.reg true [.m 96 6, .c 97 f1 [.t 96, .ci 7], .m 98 97, .wm 98 99 0, .w 98 (.nck 100 (.t 99)), .w 98 (.fa 101 2 (.t 100)), .wm 98 102 6, .w 98 (.nck 103 (.t 102)), .w 98 (.fa 104 2 (.t 103)), .w 98 (.call (some 105) f8 [.t 101, .t 104]), .k 106 98 105]) (.cond (.t 106) (.seq (.r [.m 107 6, .c 108 f9 [.t 107], .s 6 4 108, .v 5 .ct]) .ret) .skip)) (.seq (.r [.q 110 19 14, .m 109 110]) (.cond (.t 109) (.seq (.reg true [.m 111 6, .c 112 f1 [.t 111, .ci 5], .m 113 112, .wm 113 114 6, .w 113 (.nck 115 (.t 114)), .w 113 (.fa 116 5 (.t 115)), .w 113 (.ld 117 false 1 (.t 116)), .w 113 (.ia 118 6 (.t 117) (.ci 0)), .w 113 (.call (some 119) f1 [.t 118, .ci 4]), .k 120 113 119, .m 121 120, .wm 121 122 0, .w 121 (.nck 123 (.t 122)), .w 121 (.fa 124 2 (.t 123)), .wm 121 125 6, .w 121 (.nck 126 (.t 125)), .w 121 (.fa 127 5 (.t 126)), .w 121 (.ld 128 false 1 (.t 127)), .w 121 (.ia 129 6 (.t 128) (.ci 0)), .w 121 (.fa 130 2 (.t 129)), .w 121 (.call (some 131) f8 [.t 124, .t 130]), .k 132 121 131]) (.cond (.t 132) (.seq (.reg true [.m 133 0, .n 134 133, .f 135 2 134, .L 136 3 135, .m 137 6, .n 138 137, .f 139 5 138, .l 140 1 139, .i 141 6 140 1, .L 142 6 141, .c 143 f7 [.t 136, .t 142], .s 6 4 143, .v 5 .ct]) .ret) .skip)) .skip)))))))))) (.seq (.r [.o (.bld 144 .zp []), .s 6 4 144, .v 5 .cf]) .ret)))))
def K_l06Loops (P : Program) (fno : Nat) : Prop := ∀ (gs : Int × Int) (p : Pg) (r : Int), okT gs p → fitP p → (r = 1 ∨ r = 10 ∨ r = 11 ∨ r = 14) → ∃ q : Pg, AF P fno [.pt (eP p) 0, eI r] (.tup [.own (eP q), .own (eB (fitsP p r))])
theorem a_l06Loops {P : Program} (hm : P.follows .mixedOrders = true) {g f1 f2 f3 f4 f5 f6 f7 f8 f9 : Nat} (hr : resF P g = some (145, k_l06Loops f1 f2 f3 f4 f5 f6 f7 f8 f9, [.c 4 6 true, .t 5])) (hc1 : K_l06Is P f1) (hc2 : K_l06Seq P f2) (hc3 : K_l06Skip P f3) (hc4 : K_l06If P f4) (hc5 : K_l01Own P f5) (hc6 : K_l02Pair P f6) (hc7 : K_l06While P f7) (hc8 : K_l01Same P f8) (hc9 : K_l06Own P f9) : K_l06Loops P g := by
 intro gs p r hp gpp hr1
 obtain ⟨pk, pn, pc, pnn, pks, rfl⟩ := Pg.ex5 p
 obtain ⟨pck, pcn, pcnn, pcks, rfl⟩ := Ex.ex pc
 rcases hr1 with rfl | rfl | rfl | rfl
 ·by_cases qp7 : pk = 7
  ·subst qp7
   have gfp := (fitP_mk _ _ _ _ _).1 gpp
   obtain ⟨rfl, p0, rfl, hp0⟩ := okT_one hp (by omega)
   have gpp0 : fitP p0 := gfp.2.2 p0 (by simp)
   have gcp : fitE (Ex.mk pck pcn pcnn pcks) := gfp.1
   obtain ⟨p0k, p0n, p0c, p0nn, p0ks, rfl⟩ := Pg.ex5 p0
   obtain ⟨p0ck, p0cn, p0cnn, p0cks, rfl⟩ := Ex.ex p0c
   refine ⟨(ifP (cpE (Ex.mk pck pcn pcnn pcks)) (cpP (sqP (cpP (Pg.mk p0k p0n (Ex.mk p0ck p0cn p0cnn p0cks) p0nn p0ks)) (cpP (Pg.mk 7 0 (Ex.mk pck pcn pcnn pcks) pnn [(Pg.mk p0k p0n (Ex.mk p0ck p0cn p0cnn p0cks) p0nn p0ks)])))) (cpP skP)), ?_⟩
   have c0 := hc1 (Pg.mk 7 0 (Ex.mk pck pcn pcnn pcks) pnn [(Pg.mk p0k p0n (Ex.mk p0ck p0cn p0cnn p0cks) p0nn p0ks)]) 7
   have c1 := hc2 (Pg.mk p0k p0n (Ex.mk p0ck p0cn p0cnn p0cks) p0nn p0ks) gpp0 (Pg.mk 7 0 (Ex.mk pck pcn pcnn pcks) pnn [(Pg.mk p0k p0n (Ex.mk p0ck p0cn p0cnn p0cks) p0nn p0ks)]) gpp
   have c2 := hc3 ()
   have c3 := hc4 (Ex.mk pck pcn pcnn pcks) gcp (sqP (cpP (Pg.mk p0k p0n (Ex.mk p0ck p0cn p0cnn p0cks) p0nn p0ks)) (cpP (Pg.mk 7 0 (Ex.mk pck pcn pcnn pcks) pnn [(Pg.mk p0k p0n (Ex.mk p0ck p0cn p0cnn p0cks) p0nn p0ks)]))) (fitP_sq (fitP_cp _ gpp0) (fitP_cp _ gpp)) skP fitP_z
   simp only [eI, eB, eE_mk, eP_mk, Ex.k, Ex.n, Ex.nn, Ex.ks, Pk, bE, sqP, ifP, skP,  lC, lN] at c0 c1 c2 c3
   refine af_of_res hr hm rfl fun hb => ?_
   simp +contextual (maxSteps := 5000000) -implicitDefEqProofs only [k_l06Loops, fitL, fitI, fitS, go_sem]
   refine callQ_self (by rfl) c0 ?_
   simp +contextual (maxSteps := 5000000) -implicitDefEqProofs only [go_sem]
   refine callQ_self (by rfl) c1 ?_
   simp +contextual (maxSteps := 5000000) -implicitDefEqProofs only [go_sem]
   refine callQ_self (by rfl) c2 ?_
   simp +contextual (maxSteps := 5000000) -implicitDefEqProofs only [go_sem]
   refine callQ_self (by rfl) c3 ?_
   simp +contextual (maxSteps := 5000000) -implicitDefEqProofs only [go_sem]
  ·have ep7 : (pk == 7) = false := beq_false_of_ne qp7
   refine ⟨(.mk 0 0 (.mk 0 0 (some true) []) (some true) []), ?_⟩
   have c0 := hc1 (Pg.mk pk pn (Ex.mk pck pcn pcnn pcks) pnn pks) 7
   simp only [ep7, eI, eB, eP_mk, Ex.k, Ex.n, Ex.nn, Ex.ks, Pk,  ] at c0
   refine af_of_res hr hm rfl fun hb => ?_
   simp +contextual (maxSteps := 5000000) -implicitDefEqProofs only [k_l06Loops, fitL, fitI, fitS, ep7, go_sem]
   refine callQ_self (by rfl) c0 ?_
   simp +contextual (maxSteps := 5000000) -implicitDefEqProofs only [go_sem]
 ·by_cases qp7 : pk = 7
  ·subst qp7
   have gfp := (fitP_mk _ _ _ _ _).1 gpp
   obtain ⟨rfl, p0, rfl, hp0⟩ := okT_one hp (by omega)
   have gpp0 : fitP p0 := gfp.2.2 p0 (by simp)
   have gcp : fitE (Ex.mk pck pcn pcnn pcks) := gfp.1
   obtain ⟨p0k, p0n, p0c, p0nn, p0ks, rfl⟩ := Pg.ex5 p0
   obtain ⟨p0ck, p0cn, p0cnn, p0cks, rfl⟩ := Ex.ex p0c
   by_cases qp05 : p0k = 5
   ·subst qp05
    have gfp0 := (fitP_mk _ _ _ _ _).1 gpp0
    obtain ⟨rfl, p00, p01, rfl, hp00, hp01⟩ := okT_two hp0 (by omega)
    have gpp00 : fitP p00 := gfp0.2.2 p00 (by simp)
    have gpp01 : fitP p01 := gfp0.2.2 p01 (by simp)
    have gcp0 : fitE (Ex.mk p0ck p0cn p0cnn p0cks) := gfp0.1
    obtain ⟨p01k, p01n, p01c, p01nn, p01ks, rfl⟩ := Pg.ex5 p01
    obtain ⟨p01ck, p01cn, p01cnn, p01cks, rfl⟩ := Ex.ex p01c
    by_cases qp017 : p01k = 7
    ·subst qp017
     have gfp01 := (fitP_mk _ _ _ _ _).1 gpp01
     obtain ⟨rfl, p010, rfl, hp010⟩ := okT_one hp01 (by omega)
     have gpp010 : fitP p010 := gfp01.2.2 p010 (by simp)
     have gcp01 : fitE (Ex.mk p01ck p01cn p01cnn p01cks) := gfp01.1
     refine ⟨(ifP (cpE (Ex.mk pck pcn pcnn pcks)) (cpP (sqP (cpP p00) (cpP (whP (cpE (Ex.mk 6 0 (some false) [(cpE (Ex.mk pck pcn pcnn pcks)), (cpE (Ex.mk p01ck p01cn p01cnn p01cks))])) (cpP (ifP (cpE (Ex.mk p01ck p01cn p01cnn p01cks)) (cpP p010) (cpP p00))))))) (cpP skP)), ?_⟩
     have c0 := hc1 (Pg.mk 7 0 (Ex.mk pck pcn pcnn pcks) pnn [(Pg.mk 5 0 (Ex.mk p0ck p0cn p0cnn p0cks) p0nn [p00, (Pg.mk 7 0 (Ex.mk p01ck p01cn p01cnn p01cks) p01nn [p010])])]) 7
     have c1 := hc1 (Pg.mk 5 0 (Ex.mk p0ck p0cn p0cnn p0cks) p0nn [p00, (Pg.mk 7 0 (Ex.mk p01ck p01cn p01cnn p01cks) p01nn [p010])]) 5
     have c2 := hc1 (Pg.mk 7 0 (Ex.mk p01ck p01cn p01cnn p01cks) p01nn [p010]) 7
     have c3 := hc5 (Ex.mk pck pcn pcnn pcks) gcp
     have c4 := hc5 (Ex.mk p01ck p01cn p01cnn p01cks) gcp01
     have c5 := hc6
     have c6 := hc4 (Ex.mk p01ck p01cn p01cnn p01cks) gcp01 p010 gpp010 p00 gpp00
     have c7 := hc7 (Ex.mk 6 0 (some false) [(cpE (Ex.mk pck pcn pcnn pcks)), (cpE (Ex.mk p01ck p01cn p01cnn p01cks))]) (fitE_2 (fitE_cp _ gcp) (fitE_cp _ gcp01)) (ifP (cpE (Ex.mk p01ck p01cn p01cnn p01cks)) (cpP p010) (cpP p00)) (fitP_if (fitE_cp _ gcp01) (fitP_cp _ gpp010) (fitP_cp _ gpp00))
     have c8 := hc2 p00 gpp00 (whP (cpE (Ex.mk 6 0 (some false) [(cpE (Ex.mk pck pcn pcnn pcks)), (cpE (Ex.mk p01ck p01cn p01cnn p01cks))])) (cpP (ifP (cpE (Ex.mk p01ck p01cn p01cnn p01cks)) (cpP p010) (cpP p00)))) (fitP_wh (fitE_cp _ (fitE_2 (fitE_cp _ gcp) (fitE_cp _ gcp01))) (fitP_cp _ (fitP_if (fitE_cp _ gcp01) (fitP_cp _ gpp010) (fitP_cp _ gpp00))))
     have c9 := hc3 ()
     have c10 := hc4 (Ex.mk pck pcn pcnn pcks) gcp (sqP (cpP p00) (cpP (whP (cpE (Ex.mk 6 0 (some false) [(cpE (Ex.mk pck pcn pcnn pcks)), (cpE (Ex.mk p01ck p01cn p01cnn p01cks))])) (cpP (ifP (cpE (Ex.mk p01ck p01cn p01cnn p01cks)) (cpP p010) (cpP p00)))))) (fitP_sq (fitP_cp _ gpp00) (fitP_cp _ (fitP_wh (fitE_cp _ (fitE_2 (fitE_cp _ gcp) (fitE_cp _ gcp01))) (fitP_cp _ (fitP_if (fitE_cp _ gcp01) (fitP_cp _ gpp010) (fitP_cp _ gpp00)))))) skP fitP_z
     simp only [eI, eB, eE_mk, eP_mk, Ex.k, Ex.n, Ex.nn, Ex.ks, Pk, bE, sqP, ifP, whP, skP,  lC, lN] at c0 c1 c2 c3 c4 c5 c6 c7 c8 c9 c10
     refine af_of_res hr hm rfl fun hb => ?_
     simp +contextual (maxSteps := 5000000) -implicitDefEqProofs only [k_l06Loops, fitL, fitI, fitS, go_sem]
     refine callQ_self (by rfl) c0 ?_
     simp +contextual (maxSteps := 5000000) -implicitDefEqProofs only [go_sem]
     refine callQ_self (by rfl) c1 ?_
     simp +contextual (maxSteps := 5000000) -implicitDefEqProofs only [go_sem]
     refine callQ_self (by rfl) c2 ?_
     simp +contextual (maxSteps := 5000000) -implicitDefEqProofs only [go_sem]
     refine callQ_le (es := [.pt (.ag [.sc (.int .i64 pck), .sc (.int .i64 pcn), .ls pcnn 3 (pcks.map eE)]) 0]) rfl ⟨leA3, trivial⟩ c3 ?_
     simp +contextual (maxSteps := 5000000) -implicitDefEqProofs only [go_sem]
     refine callQ_le (es := [.pt (.ag [.sc (.int .i64 p01ck), .sc (.int .i64 p01cn), .ls p01cnn 3 (p01cks.map eE)]) 0]) rfl ⟨leA3, trivial⟩ c4 ?_
     simp +contextual (maxSteps := 5000000) -implicitDefEqProofs only [go_sem]
     refine callP_self rfl c5 (by simp only [AV.aggV, itemOk, go_sem, Bool.and_self] <;> rfl) (by simp only [AV.aggV, itemOk, go_sem, Bool.and_self] <;> rfl) ?_
     simp +contextual (maxSteps := 5000000) -implicitDefEqProofs only [go_sem]
     refine ⟨by simp [eE_size], ?_⟩
     refine callQ_self (by rfl) c6 ?_
     simp +contextual (maxSteps := 5000000) -implicitDefEqProofs only [go_sem]
     refine callQ_self (by rfl) c7 ?_
     simp +contextual (maxSteps := 5000000) -implicitDefEqProofs only [go_sem]
     refine callQ_self (by rfl) c8 ?_
     simp +contextual (maxSteps := 5000000) -implicitDefEqProofs only [go_sem]
     refine callQ_self (by rfl) c9 ?_
     simp +contextual (maxSteps := 5000000) -implicitDefEqProofs only [go_sem]
     refine callQ_self (by rfl) c10 ?_
     simp +contextual (maxSteps := 5000000) -implicitDefEqProofs only [go_sem]
    ·have ep017 : (p01k == 7) = false := beq_false_of_ne qp017
     refine ⟨(.mk 0 0 (.mk 0 0 (some true) []) (some true) []), ?_⟩
     have c0 := hc1 (Pg.mk 7 0 (Ex.mk pck pcn pcnn pcks) pnn [(Pg.mk 5 0 (Ex.mk p0ck p0cn p0cnn p0cks) p0nn [p00, (Pg.mk p01k p01n (Ex.mk p01ck p01cn p01cnn p01cks) p01nn p01ks)])]) 7
     have c1 := hc1 (Pg.mk 5 0 (Ex.mk p0ck p0cn p0cnn p0cks) p0nn [p00, (Pg.mk p01k p01n (Ex.mk p01ck p01cn p01cnn p01cks) p01nn p01ks)]) 5
     have c2 := hc1 (Pg.mk p01k p01n (Ex.mk p01ck p01cn p01cnn p01cks) p01nn p01ks) 7
     simp only [ep017, eI, eB, eP_mk, Ex.k, Ex.n, Ex.nn, Ex.ks, Pk, bE,  lC, lN] at c0 c1 c2
     refine af_of_res hr hm rfl fun hb => ?_
     simp +contextual (maxSteps := 5000000) -implicitDefEqProofs only [k_l06Loops, fitL, fitI, fitS, ep017, go_sem]
     refine callQ_self (by rfl) c0 ?_
     simp +contextual (maxSteps := 5000000) -implicitDefEqProofs only [go_sem]
     refine callQ_self (by rfl) c1 ?_
     simp +contextual (maxSteps := 5000000) -implicitDefEqProofs only [go_sem]
     refine callQ_self (by rfl) c2 ?_
     simp +contextual (maxSteps := 5000000) -implicitDefEqProofs only [go_sem]
   ·have ep05 : (p0k == 5) = false := beq_false_of_ne qp05
    refine ⟨(.mk 0 0 (.mk 0 0 (some true) []) (some true) []), ?_⟩
    have c0 := hc1 (Pg.mk 7 0 (Ex.mk pck pcn pcnn pcks) pnn [(Pg.mk p0k p0n (Ex.mk p0ck p0cn p0cnn p0cks) p0nn p0ks)]) 7
    have c1 := hc1 (Pg.mk p0k p0n (Ex.mk p0ck p0cn p0cnn p0cks) p0nn p0ks) 5
    simp only [ep05, eI, eB, eP_mk, Ex.k, Ex.n, Ex.nn, Ex.ks, Pk, bE,  lC, lN] at c0 c1
    refine af_of_res hr hm rfl fun hb => ?_
    simp +contextual (maxSteps := 5000000) -implicitDefEqProofs only [k_l06Loops, fitL, fitI, fitS, ep05, go_sem]
    refine callQ_self (by rfl) c0 ?_
    simp +contextual (maxSteps := 5000000) -implicitDefEqProofs only [go_sem]
    refine callQ_self (by rfl) c1 ?_
    simp +contextual (maxSteps := 5000000) -implicitDefEqProofs only [go_sem]
  ·have ep7 : (pk == 7) = false := beq_false_of_ne qp7
   refine ⟨(.mk 0 0 (.mk 0 0 (some true) []) (some true) []), ?_⟩
   have c0 := hc1 (Pg.mk pk pn (Ex.mk pck pcn pcnn pcks) pnn pks) 7
   simp only [ep7, eI, eB, eP_mk, Ex.k, Ex.n, Ex.nn, Ex.ks, Pk,  ] at c0
   refine af_of_res hr hm rfl fun hb => ?_
   simp +contextual (maxSteps := 5000000) -implicitDefEqProofs only [k_l06Loops, fitL, fitI, fitS, ep7, go_sem]
   refine callQ_self (by rfl) c0 ?_
   simp +contextual (maxSteps := 5000000) -implicitDefEqProofs only [go_sem]
 ·by_cases qp7 : pk = 7
  ·subst qp7
   have gfp := (fitP_mk _ _ _ _ _).1 gpp
   obtain ⟨rfl, p0, rfl, hp0⟩ := okT_one hp (by omega)
   have gpp0 : fitP p0 := gfp.2.2 p0 (by simp)
   have gcp : fitE (Ex.mk pck pcn pcnn pcks) := gfp.1
   obtain ⟨p0k, p0n, p0c, p0nn, p0ks, rfl⟩ := Pg.ex5 p0
   obtain ⟨p0ck, p0cn, p0cnn, p0cks, rfl⟩ := Ex.ex p0c
   by_cases qp07 : p0k = 7
   ·subst qp07
    have gfp0 := (fitP_mk _ _ _ _ _).1 gpp0
    obtain ⟨rfl, p00, rfl, hp00⟩ := okT_one hp0 (by omega)
    have gpp00 : fitP p00 := gfp0.2.2 p00 (by simp)
    have gcp0 : fitE (Ex.mk p0ck p0cn p0cnn p0cks) := gfp0.1
    have cE := hc8 (Ex.mk pck pcn pcnn pcks) (Ex.mk p0ck p0cn p0cnn p0cks)
    rw [qE_symm] at cE
    cases qb : qE (Ex.mk p0ck p0cn p0cnn p0cks) (Ex.mk pck pcn pcnn pcks)
    ·refine ⟨(.mk 0 0 (.mk 0 0 (some true) []) (some true) []), ?_⟩
     have c0 := hc1 (Pg.mk 7 0 (Ex.mk pck pcn pcnn pcks) pnn [(Pg.mk 7 0 (Ex.mk p0ck p0cn p0cnn p0cks) p0nn [p00])]) 7
     have c1 := hc1 (Pg.mk 7 0 (Ex.mk p0ck p0cn p0cnn p0cks) p0nn [p00]) 7
     simp only [qb, eI, eB, eE_mk, eP_mk, Ex.k, Ex.n, Ex.nn, Ex.ks, Pk, bE,  lC, lN] at c0 c1 cE
     refine af_of_res hr hm rfl fun hb => ?_
     simp +contextual (maxSteps := 5000000) -implicitDefEqProofs only [k_l06Loops, fitL, fitI, fitS, qb, go_sem]
     refine callQ_self (by rfl) c0 ?_
     simp +contextual (maxSteps := 5000000) -implicitDefEqProofs only [go_sem]
     refine callQ_self (by rfl) c1 ?_
     simp +contextual (maxSteps := 5000000) -implicitDefEqProofs only [go_sem]
     refine callQ_le (es := [.pt (.ag [.sc (.int .i64 pck), .sc (.int .i64 pcn), .ls pcnn 3 (pcks.map eE)]) 0, .pt (.ag [.sc (.int .i64 p0ck), .sc (.int .i64 p0cn), .ls p0cnn 3 (p0cks.map eE)]) 0]) rfl ⟨leA3, leA3, trivial⟩ cE ?_
     simp +contextual (maxSteps := 5000000) -implicitDefEqProofs only [go_sem]
    ·refine ⟨(cpP (Pg.mk 7 0 (Ex.mk p0ck p0cn p0cnn p0cks) p0nn [p00])), ?_⟩
     have c0 := hc1 (Pg.mk 7 0 (Ex.mk pck pcn pcnn pcks) pnn [(Pg.mk 7 0 (Ex.mk p0ck p0cn p0cnn p0cks) p0nn [p00])]) 7
     have c1 := hc1 (Pg.mk 7 0 (Ex.mk p0ck p0cn p0cnn p0cks) p0nn [p00]) 7
     have c3 := hc9 (Pg.mk 7 0 (Ex.mk p0ck p0cn p0cnn p0cks) p0nn [p00]) gpp0
     simp only [qb, eI, eB, eE_mk, eP_mk, Ex.k, Ex.n, Ex.nn, Ex.ks, Pk, bE,  lC, lN] at c0 c1 cE c3
     refine af_of_res hr hm rfl fun hb => ?_
     simp +contextual (maxSteps := 5000000) -implicitDefEqProofs only [k_l06Loops, fitL, fitI, fitS, qb, go_sem]
     refine callQ_self (by rfl) c0 ?_
     simp +contextual (maxSteps := 5000000) -implicitDefEqProofs only [go_sem]
     refine callQ_self (by rfl) c1 ?_
     simp +contextual (maxSteps := 5000000) -implicitDefEqProofs only [go_sem]
     refine callQ_le (es := [.pt (.ag [.sc (.int .i64 pck), .sc (.int .i64 pcn), .ls pcnn 3 (pcks.map eE)]) 0, .pt (.ag [.sc (.int .i64 p0ck), .sc (.int .i64 p0cn), .ls p0cnn 3 (p0cks.map eE)]) 0]) rfl ⟨leA3, leA3, trivial⟩ cE ?_
     simp +contextual (maxSteps := 5000000) -implicitDefEqProofs only [go_sem]
     refine callQ_self (by rfl) c3 ?_
     simp +contextual (maxSteps := 5000000) -implicitDefEqProofs only [go_sem]
   ·have ep07 : (p0k == 7) = false := beq_false_of_ne qp07
    refine ⟨(.mk 0 0 (.mk 0 0 (some true) []) (some true) []), ?_⟩
    have c0 := hc1 (Pg.mk 7 0 (Ex.mk pck pcn pcnn pcks) pnn [(Pg.mk p0k p0n (Ex.mk p0ck p0cn p0cnn p0cks) p0nn p0ks)]) 7
    have c1 := hc1 (Pg.mk p0k p0n (Ex.mk p0ck p0cn p0cnn p0cks) p0nn p0ks) 7
    simp only [ep07, eI, eB, eP_mk, Ex.k, Ex.n, Ex.nn, Ex.ks, Pk, bE,  lC, lN] at c0 c1
    refine af_of_res hr hm rfl fun hb => ?_
    simp +contextual (maxSteps := 5000000) -implicitDefEqProofs only [k_l06Loops, fitL, fitI, fitS, ep07, go_sem]
    refine callQ_self (by rfl) c0 ?_
    simp +contextual (maxSteps := 5000000) -implicitDefEqProofs only [go_sem]
    refine callQ_self (by rfl) c1 ?_
    simp +contextual (maxSteps := 5000000) -implicitDefEqProofs only [go_sem]
  ·have ep7 : (pk == 7) = false := beq_false_of_ne qp7
   refine ⟨(.mk 0 0 (.mk 0 0 (some true) []) (some true) []), ?_⟩
   have c0 := hc1 (Pg.mk pk pn (Ex.mk pck pcn pcnn pcks) pnn pks) 7
   simp only [ep7, eI, eB, eP_mk, Ex.k, Ex.n, Ex.nn, Ex.ks, Pk,  ] at c0
   refine af_of_res hr hm rfl fun hb => ?_
   simp +contextual (maxSteps := 5000000) -implicitDefEqProofs only [k_l06Loops, fitL, fitI, fitS, ep7, go_sem]
   refine callQ_self (by rfl) c0 ?_
   simp +contextual (maxSteps := 5000000) -implicitDefEqProofs only [go_sem]
 ·by_cases qp7 : pk = 7
  ·subst qp7
   have gfp := (fitP_mk _ _ _ _ _).1 gpp
   obtain ⟨rfl, p0, rfl, hp0⟩ := okT_one hp (by omega)
   have gpp0 : fitP p0 := gfp.2.2 p0 (by simp)
   have gcp : fitE (Ex.mk pck pcn pcnn pcks) := gfp.1
   obtain ⟨p0k, p0n, p0c, p0nn, p0ks, rfl⟩ := Pg.ex5 p0
   obtain ⟨p0ck, p0cn, p0cnn, p0cks, rfl⟩ := Ex.ex p0c
   by_cases qp05 : p0k = 5
   ·subst qp05
    have gfp0 := (fitP_mk _ _ _ _ _).1 gpp0
    obtain ⟨rfl, p00, p01, rfl, hp00, hp01⟩ := okT_two hp0 (by omega)
    have gpp00 : fitP p00 := gfp0.2.2 p00 (by simp)
    have gpp01 : fitP p01 := gfp0.2.2 p01 (by simp)
    have gcp0 : fitE (Ex.mk p0ck p0cn p0cnn p0cks) := gfp0.1
    obtain ⟨p00k, p00n, p00c, p00nn, p00ks, rfl⟩ := Pg.ex5 p00
    obtain ⟨p00ck, p00cn, p00cnn, p00cks, rfl⟩ := Ex.ex p00c
    by_cases qp004 : p00k = 4
    ·subst qp004
     have gcp00 : fitE (Ex.mk p00ck p00cn p00cnn p00cks) := ((fitP_mk _ _ _ _ _).1 gpp00).1
     have cE := hc8 (Ex.mk pck pcn pcnn pcks) (Ex.mk p00ck p00cn p00cnn p00cks)
     rw [qE_symm] at cE
     cases qb : qE (Ex.mk p00ck p00cn p00cnn p00cks) (Ex.mk pck pcn pcnn pcks)
     ·refine ⟨(.mk 0 0 (.mk 0 0 (some true) []) (some true) []), ?_⟩
      have c0 := hc1 (Pg.mk 7 0 (Ex.mk pck pcn pcnn pcks) pnn [(Pg.mk 5 0 (Ex.mk p0ck p0cn p0cnn p0cks) p0nn [(Pg.mk 4 p00n (Ex.mk p00ck p00cn p00cnn p00cks) p00nn p00ks), p01])]) 7
      have c1 := hc1 (Pg.mk 5 0 (Ex.mk p0ck p0cn p0cnn p0cks) p0nn [(Pg.mk 4 p00n (Ex.mk p00ck p00cn p00cnn p00cks) p00nn p00ks), p01]) 5
      have c2 := hc1 (Pg.mk 4 p00n (Ex.mk p00ck p00cn p00cnn p00cks) p00nn p00ks) 4
      simp only [qb, eI, eB, eE_mk, eP_mk, Ex.k, Ex.n, Ex.nn, Ex.ks, Pk, bE,  lC, lN] at c0 c1 c2 cE
      refine af_of_res hr hm rfl fun hb => ?_
      simp +contextual (maxSteps := 5000000) -implicitDefEqProofs only [k_l06Loops, fitL, fitI, fitS, qb, go_sem]
      refine callQ_self (by rfl) c0 ?_
      simp +contextual (maxSteps := 5000000) -implicitDefEqProofs only [go_sem]
      refine callQ_self (by rfl) c1 ?_
      simp +contextual (maxSteps := 5000000) -implicitDefEqProofs only [go_sem]
      refine callQ_self (by rfl) c2 ?_
      simp +contextual (maxSteps := 5000000) -implicitDefEqProofs only [go_sem]
      refine callQ_le (es := [.pt (.ag [.sc (.int .i64 pck), .sc (.int .i64 pcn), .ls pcnn 3 (pcks.map eE)]) 0, .pt (.ag [.sc (.int .i64 p00ck), .sc (.int .i64 p00cn), .ls p00cnn 3 (p00cks.map eE)]) 0]) rfl ⟨leA3, leA3, trivial⟩ cE ?_
      simp +contextual (maxSteps := 5000000) -implicitDefEqProofs only [go_sem]
     ·refine ⟨(whP (cpE (Ex.mk pck pcn pcnn pcks)) (cpP p01)), ?_⟩
      have c0 := hc1 (Pg.mk 7 0 (Ex.mk pck pcn pcnn pcks) pnn [(Pg.mk 5 0 (Ex.mk p0ck p0cn p0cnn p0cks) p0nn [(Pg.mk 4 p00n (Ex.mk p00ck p00cn p00cnn p00cks) p00nn p00ks), p01])]) 7
      have c1 := hc1 (Pg.mk 5 0 (Ex.mk p0ck p0cn p0cnn p0cks) p0nn [(Pg.mk 4 p00n (Ex.mk p00ck p00cn p00cnn p00cks) p00nn p00ks), p01]) 5
      have c2 := hc1 (Pg.mk 4 p00n (Ex.mk p00ck p00cn p00cnn p00cks) p00nn p00ks) 4
      have c4 := hc7 (Ex.mk pck pcn pcnn pcks) gcp p01 gpp01
      simp only [qb, eI, eB, eE_mk, eP_mk, Ex.k, Ex.n, Ex.nn, Ex.ks, Pk, bE, whP,  lC, lN] at c0 c1 c2 cE c4
      refine af_of_res hr hm rfl fun hb => ?_
      simp +contextual (maxSteps := 5000000) -implicitDefEqProofs only [k_l06Loops, fitL, fitI, fitS, qb, go_sem]
      refine callQ_self (by rfl) c0 ?_
      simp +contextual (maxSteps := 5000000) -implicitDefEqProofs only [go_sem]
      refine callQ_self (by rfl) c1 ?_
      simp +contextual (maxSteps := 5000000) -implicitDefEqProofs only [go_sem]
      refine callQ_self (by rfl) c2 ?_
      simp +contextual (maxSteps := 5000000) -implicitDefEqProofs only [go_sem]
      refine callQ_le (es := [.pt (.ag [.sc (.int .i64 pck), .sc (.int .i64 pcn), .ls pcnn 3 (pcks.map eE)]) 0, .pt (.ag [.sc (.int .i64 p00ck), .sc (.int .i64 p00cn), .ls p00cnn 3 (p00cks.map eE)]) 0]) rfl ⟨leA3, leA3, trivial⟩ cE ?_
      simp +contextual (maxSteps := 5000000) -implicitDefEqProofs only [go_sem]
      refine callQ_self (by rfl) c4 ?_
      simp +contextual (maxSteps := 5000000) -implicitDefEqProofs only [go_sem]
    ·have ep004 : (p00k == 4) = false := beq_false_of_ne qp004
     refine ⟨(.mk 0 0 (.mk 0 0 (some true) []) (some true) []), ?_⟩
     have c0 := hc1 (Pg.mk 7 0 (Ex.mk pck pcn pcnn pcks) pnn [(Pg.mk 5 0 (Ex.mk p0ck p0cn p0cnn p0cks) p0nn [(Pg.mk p00k p00n (Ex.mk p00ck p00cn p00cnn p00cks) p00nn p00ks), p01])]) 7
     have c1 := hc1 (Pg.mk 5 0 (Ex.mk p0ck p0cn p0cnn p0cks) p0nn [(Pg.mk p00k p00n (Ex.mk p00ck p00cn p00cnn p00cks) p00nn p00ks), p01]) 5
     have c2 := hc1 (Pg.mk p00k p00n (Ex.mk p00ck p00cn p00cnn p00cks) p00nn p00ks) 4
     simp only [ep004, eI, eB, eP_mk, Ex.k, Ex.n, Ex.nn, Ex.ks, Pk, bE,  lC, lN] at c0 c1 c2
     refine af_of_res hr hm rfl fun hb => ?_
     simp +contextual (maxSteps := 5000000) -implicitDefEqProofs only [k_l06Loops, fitL, fitI, fitS, ep004, go_sem]
     refine callQ_self (by rfl) c0 ?_
     simp +contextual (maxSteps := 5000000) -implicitDefEqProofs only [go_sem]
     refine callQ_self (by rfl) c1 ?_
     simp +contextual (maxSteps := 5000000) -implicitDefEqProofs only [go_sem]
     refine callQ_self (by rfl) c2 ?_
     simp +contextual (maxSteps := 5000000) -implicitDefEqProofs only [go_sem]
   ·have ep05 : (p0k == 5) = false := beq_false_of_ne qp05
    refine ⟨(.mk 0 0 (.mk 0 0 (some true) []) (some true) []), ?_⟩
    have c0 := hc1 (Pg.mk 7 0 (Ex.mk pck pcn pcnn pcks) pnn [(Pg.mk p0k p0n (Ex.mk p0ck p0cn p0cnn p0cks) p0nn p0ks)]) 7
    have c1 := hc1 (Pg.mk p0k p0n (Ex.mk p0ck p0cn p0cnn p0cks) p0nn p0ks) 5
    simp only [ep05, eI, eB, eP_mk, Ex.k, Ex.n, Ex.nn, Ex.ks, Pk, bE,  lC, lN] at c0 c1
    refine af_of_res hr hm rfl fun hb => ?_
    simp +contextual (maxSteps := 5000000) -implicitDefEqProofs only [k_l06Loops, fitL, fitI, fitS, ep05, go_sem]
    refine callQ_self (by rfl) c0 ?_
    simp +contextual (maxSteps := 5000000) -implicitDefEqProofs only [go_sem]
    refine callQ_self (by rfl) c1 ?_
    simp +contextual (maxSteps := 5000000) -implicitDefEqProofs only [go_sem]
  ·have ep7 : (pk == 7) = false := beq_false_of_ne qp7
   refine ⟨(.mk 0 0 (.mk 0 0 (some true) []) (some true) []), ?_⟩
   have c0 := hc1 (Pg.mk pk pn (Ex.mk pck pcn pcnn pcks) pnn pks) 7
   simp only [ep7, eI, eB, eP_mk, Ex.k, Ex.n, Ex.nn, Ex.ks, Pk,  ] at c0
   refine af_of_res hr hm rfl fun hb => ?_
   simp +contextual (maxSteps := 5000000) -implicitDefEqProofs only [k_l06Loops, fitL, fitI, fitS, ep7, go_sem]
   refine callQ_self (by rfl) c0 ?_
   simp +contextual (maxSteps := 5000000) -implicitDefEqProofs only [go_sem]

def k_l06Ifs (f1 f2 f3 f4 f5 f6 f7 : Nat) : RC := (.seq (.r [.o (.zer 4 6 .zp), .v 5 .cf]) (.seq (.seq (.r [.m 9 0, .c 10 f1 [.t 9, .ci 6], .o (.un 11 .not (.t 10))]) (.cond (.t 11) (.seq (.r [.o (.bld 12 .zp []), .s 6 4 12, .v 5 .cf]) .ret) .skip)) (.seq (.reg true [.m 13 0, .n 14 13, .f 15 5 14, .l 16 1 15, .i 17 6 16 0, .m 18 0, .n 19 18, .f 20 5 19, .l 21 1 20, .i 22 6 21 1, .m 6 17, .m 7 22]) (.seq (.seq (.r [.m 23 1]) (.blk 0 (.seq (.r [.q 25 23 2, .m 24 25]) (.cond (.t 24) (.seq (.r [.m 26 6, .c 27 f1 [.t 26, .ci 5], .m 28 27, .wm 28 29 7, .w 28 (.call (some 30) f1 [.t 29, .ci 1]), .k 31 28 30]) (.cond (.t 31) (.seq (.r [.m 32 6, .n 33 32, .f 34 5 33, .l 35 1 34, .i 36 6 35 1, .m 8 36]) (.seq (.reg true [.m 37 8, .c 38 f1 [.t 37, .ci 7], .m 39 38, .wm 39 40 8, .w 39 (.nck 41 (.t 40)), .w 39 (.fa 42 2 (.t 41)), .wm 39 43 0, .w 39 (.nck 44 (.t 43)), .w 39 (.fa 45 2 (.t 44)), .w 39 (.call (some 46) f2 [.t 42, .t 45]), .k 47 39 46, .m 48 47, .wm 48 49 8, .w 48 (.nck 50 (.t 49)), .w 48 (.fa 51 5 (.t 50)), .w 48 (.ld 52 false 1 (.t 51)), .w 48 (.ia 53 6 (.t 52) (.ci 0)), .wm 48 54 6, .w 48 (.nck 55 (.t 54)), .w 48 (.fa 56 5 (.t 55)), .w 48 (.ld 57 false 1 (.t 56)), .w 48 (.ia 58 6 (.t 57) (.ci 0)), .w 48 (.call (some 59) f3 [.t 53, .t 58]), .k 60 48 59]) (.cond (.t 60) (.seq (.r [.m 61 8, .c 62 f4 [.t 61], .s 6 4 62, .v 5 .ct]) .ret) .skip))) .skip)) (.seq (.r [.q 64 23 3, .m 63 64]) (.cond (.t 63) (.seq (.r [.m 65 6, .m 66 7, .c 67 f3 [.t 65, .t 66]]) (.cond (.t 67) (.seq (.r [.m 68 6, .c 69 f4 [.t 68], .s 6 4 69, .v 5 .ct]) .ret) .skip)) (.seq (.r [.q 71 23 4, .m 70 71]) (.cond (.t 70) (.seq (.reg true [.m 72 0, .n 73 72, .f 74 2 73, .L 75 3 74, .c 76 f5 [.t 75], .m 77 7, .n 78 77, .L 79 6 78, .m 80 6, .n 81 80, .L 82 6 81, .c 83 f6 [.t 76, .t 79, .t 82], .s 6 4 83, .v 5 .ct]) .ret) (.seq (.r [.q 85 23 9, .m 84 85]) (.cond (.t 84) (.seq (.reg true [.m 86 6, .c 87 f1 [.t 86, .ci 5], .m 88 87, .wm 88 89 7, .w 88 (.call (some 90) f1 [.t 89, .ci 5]), .k 91 88 90, .m 92 91, .wm 92 93 6, .w 92 (.nck 94 (.t 93)), .w 92 (.fa 95 5 (.t 94)), .w 92 (.ld 96 false 1 (.t 95)), .w 92 (.ia 97 6 (.t 96) (.ci 1)), .wm 92 98 7, .w 92 (.nck 99 (.t 98)), .w 92 (.fa 100 5 (.t 99)), .w 92 (.ld 101 false 1 (.t 100)), .w 92 (.ia 102 6 (.t 101) (.ci 1)), .w 92 (.call (some 103) f3 [.t 97, .t 102]), .k 104 92 103]) (.cond (.t 104) (.seq (.reg true [.m 105 0, .n 106 105, .f 107 2 106, .L 108 3 107, .m 109 6, .n 110 109, .f 111 5 110, .l 112 1 111, .i 113 6 112 0, .L 114 6 113, .m 115 7, .n 116 115, .f 117 5 116, .l 118 1 117, .i 119 6 118 0, .L 120 6 119, .c 121 f6 [.t 108, .t 114, .t 120], .m 122 6, .n 123 122, .f 124 5 123, .l 125 1 124, .i 126 6 125 1, .L 127 6 126, .c 128 f7 [.t 121, .t 127], .s 6 4 128, .v 5 .ct]) .ret) .skip)) .skip)))))))))) (.seq (.r [.o (.bld 129 .zp []), .s 6 4 129, .v 5 .cf]) .ret)))))
def K_l06Ifs (P : Program) (fno : Nat) : Prop := ∀ (gs : Int × Int) (p : Pg) (r : Int), okT gs p → fitP p → (r = 2 ∨ r = 3 ∨ r = 4 ∨ r = 9) → ∃ q : Pg, AF P fno [.pt (eP p) 0, eI r] (.tup [.own (eP q), .own (eB (fitsP p r))])
theorem a_l06Ifs {P : Program} (hm : P.follows .mixedOrders = true) {g f1 f2 f3 f4 f5 f6 f7 : Nat} (hr : resF P g = some (130, k_l06Ifs f1 f2 f3 f4 f5 f6 f7, [.c 4 6 true, .t 5])) (hc1 : K_l06Is P f1) (hc2 : K_l01Same P f2) (hc3 : K_l06Same P f3) (hc4 : K_l06Own P f4) (hc5 : K_l06Not P f5) (hc6 : K_l06If P f6) (hc7 : K_l06Seq P f7) : K_l06Ifs P g := by
 intro gs p r hp gpp hr1
 obtain ⟨pk, pn, pc, pnn, pks, rfl⟩ := Pg.ex5 p
 obtain ⟨pck, pcn, pcnn, pcks, rfl⟩ := Ex.ex pc
 rcases hr1 with rfl | rfl | rfl | rfl
 ·by_cases qp6 : pk = 6
  ·subst qp6
   have gfp := (fitP_mk _ _ _ _ _).1 gpp
   obtain ⟨rfl, p0, p1, rfl, hp0, hp1⟩ := okT_two hp (by omega)
   have gpp0 : fitP p0 := gfp.2.2 p0 (by simp)
   have gpp1 : fitP p1 := gfp.2.2 p1 (by simp)
   have gcp : fitE (Ex.mk pck pcn pcnn pcks) := gfp.1
   obtain ⟨p0k, p0n, p0c, p0nn, p0ks, rfl⟩ := Pg.ex5 p0
   obtain ⟨p0ck, p0cn, p0cnn, p0cks, rfl⟩ := Ex.ex p0c
   obtain ⟨p1k, p1n, p1c, p1nn, p1ks, rfl⟩ := Pg.ex5 p1
   obtain ⟨p1ck, p1cn, p1cnn, p1cks, rfl⟩ := Ex.ex p1c
   by_cases qp05 : p0k = 5
   ·subst qp05
    have gfp0 := (fitP_mk _ _ _ _ _).1 gpp0
    obtain ⟨rfl, p00, p01, rfl, hp00, hp01⟩ := okT_two hp0 (by omega)
    have gpp00 : fitP p00 := gfp0.2.2 p00 (by simp)
    have gpp01 : fitP p01 := gfp0.2.2 p01 (by simp)
    have gcp0 : fitE (Ex.mk p0ck p0cn p0cnn p0cks) := gfp0.1
    by_cases qp11 : p1k = 1
    ·subst qp11
     have gcp1 : fitE (Ex.mk p1ck p1cn p1cnn p1cks) := ((fitP_mk _ _ _ _ _).1 gpp1).1
     obtain ⟨p01k, p01n, p01c, p01nn, p01ks, rfl⟩ := Pg.ex5 p01
     obtain ⟨p01ck, p01cn, p01cnn, p01cks, rfl⟩ := Ex.ex p01c
     by_cases qp017 : p01k = 7
     ·subst qp017
      have gfp01 := (fitP_mk _ _ _ _ _).1 gpp01
      obtain ⟨rfl, p010, rfl, hp010⟩ := okT_one hp01 (by omega)
      have gpp010 : fitP p010 := gfp01.2.2 p010 (by simp)
      have gcp01 : fitE (Ex.mk p01ck p01cn p01cnn p01cks) := gfp01.1
      have cE := hc2 (Ex.mk p01ck p01cn p01cnn p01cks) (Ex.mk pck pcn pcnn pcks)
      cases qb : qE (Ex.mk p01ck p01cn p01cnn p01cks) (Ex.mk pck pcn pcnn pcks)
      ·refine ⟨(.mk 0 0 (.mk 0 0 (some true) []) (some true) []), ?_⟩
       have c0 := hc1 (Pg.mk 6 0 (Ex.mk pck pcn pcnn pcks) pnn [(Pg.mk 5 0 (Ex.mk p0ck p0cn p0cnn p0cks) p0nn [p00, (Pg.mk 7 0 (Ex.mk p01ck p01cn p01cnn p01cks) p01nn [p010])]), (Pg.mk 1 p1n (Ex.mk p1ck p1cn p1cnn p1cks) p1nn p1ks)]) 6
       have c1 := hc1 (Pg.mk 5 0 (Ex.mk p0ck p0cn p0cnn p0cks) p0nn [p00, (Pg.mk 7 0 (Ex.mk p01ck p01cn p01cnn p01cks) p01nn [p010])]) 5
       have c2 := hc1 (Pg.mk 1 p1n (Ex.mk p1ck p1cn p1cnn p1cks) p1nn p1ks) 1
       have c3 := hc1 (Pg.mk 7 0 (Ex.mk p01ck p01cn p01cnn p01cks) p01nn [p010]) 7
       simp only [qb, eI, eB, eE_mk, eP_mk, Ex.k, Ex.n, Ex.nn, Ex.ks, Pk, bE,  lC, lN] at c0 c1 c2 c3 cE
       refine af_of_res hr hm rfl fun hb => ?_
       simp +contextual (maxSteps := 5000000) -implicitDefEqProofs only [k_l06Ifs, fitL, fitI, fitS, qb, go_sem]
       refine callQ_self (by rfl) c0 ?_
       simp +contextual (maxSteps := 5000000) -implicitDefEqProofs only [go_sem]
       refine callQ_self (by rfl) c1 ?_
       simp +contextual (maxSteps := 5000000) -implicitDefEqProofs only [go_sem]
       refine callQ_self (by rfl) c2 ?_
       simp +contextual (maxSteps := 5000000) -implicitDefEqProofs only [go_sem]
       refine callQ_self (by rfl) c3 ?_
       simp +contextual (maxSteps := 5000000) -implicitDefEqProofs only [go_sem]
       refine callQ_le (es := [.pt (.ag [.sc (.int .i64 p01ck), .sc (.int .i64 p01cn), .ls p01cnn 3 (p01cks.map eE)]) 0, .pt (.ag [.sc (.int .i64 pck), .sc (.int .i64 pcn), .ls pcnn 3 (pcks.map eE)]) 0]) rfl ⟨leA3, leA3, trivial⟩ cE ?_
       simp +contextual (maxSteps := 5000000) -implicitDefEqProofs only [go_sem]
      ·cases qc : qP p010 p00
       ·refine ⟨(.mk 0 0 (.mk 0 0 (some true) []) (some true) []), ?_⟩
        have c0 := hc1 (Pg.mk 6 0 (Ex.mk pck pcn pcnn pcks) pnn [(Pg.mk 5 0 (Ex.mk p0ck p0cn p0cnn p0cks) p0nn [p00, (Pg.mk 7 0 (Ex.mk p01ck p01cn p01cnn p01cks) p01nn [p010])]), (Pg.mk 1 p1n (Ex.mk p1ck p1cn p1cnn p1cks) p1nn p1ks)]) 6
        have c1 := hc1 (Pg.mk 5 0 (Ex.mk p0ck p0cn p0cnn p0cks) p0nn [p00, (Pg.mk 7 0 (Ex.mk p01ck p01cn p01cnn p01cks) p01nn [p010])]) 5
        have c2 := hc1 (Pg.mk 1 p1n (Ex.mk p1ck p1cn p1cnn p1cks) p1nn p1ks) 1
        have c3 := hc1 (Pg.mk 7 0 (Ex.mk p01ck p01cn p01cnn p01cks) p01nn [p010]) 7
        have c5 := hc3 p010 p00
        simp only [qb, qc, eI, eB, eE_mk, eP_mk, Ex.k, Ex.n, Ex.nn, Ex.ks, Pk, bE,  lC, lN] at c0 c1 c2 c3 cE c5
        refine af_of_res hr hm rfl fun hb => ?_
        simp +contextual (maxSteps := 5000000) -implicitDefEqProofs only [k_l06Ifs, fitL, fitI, fitS, qb, qc, go_sem]
        refine callQ_self (by rfl) c0 ?_
        simp +contextual (maxSteps := 5000000) -implicitDefEqProofs only [go_sem]
        refine callQ_self (by rfl) c1 ?_
        simp +contextual (maxSteps := 5000000) -implicitDefEqProofs only [go_sem]
        refine callQ_self (by rfl) c2 ?_
        simp +contextual (maxSteps := 5000000) -implicitDefEqProofs only [go_sem]
        refine callQ_self (by rfl) c3 ?_
        simp +contextual (maxSteps := 5000000) -implicitDefEqProofs only [go_sem]
        refine callQ_le (es := [.pt (.ag [.sc (.int .i64 p01ck), .sc (.int .i64 p01cn), .ls p01cnn 3 (p01cks.map eE)]) 0, .pt (.ag [.sc (.int .i64 pck), .sc (.int .i64 pcn), .ls pcnn 3 (pcks.map eE)]) 0]) rfl ⟨leA3, leA3, trivial⟩ cE ?_
        simp +contextual (maxSteps := 5000000) -implicitDefEqProofs only [go_sem]
        refine callQ_self (by rfl) c5 ?_
        simp +contextual (maxSteps := 5000000) -implicitDefEqProofs only [go_sem]
       ·refine ⟨(cpP (Pg.mk 7 0 (Ex.mk p01ck p01cn p01cnn p01cks) p01nn [p010])), ?_⟩
        have c0 := hc1 (Pg.mk 6 0 (Ex.mk pck pcn pcnn pcks) pnn [(Pg.mk 5 0 (Ex.mk p0ck p0cn p0cnn p0cks) p0nn [p00, (Pg.mk 7 0 (Ex.mk p01ck p01cn p01cnn p01cks) p01nn [p010])]), (Pg.mk 1 p1n (Ex.mk p1ck p1cn p1cnn p1cks) p1nn p1ks)]) 6
        have c1 := hc1 (Pg.mk 5 0 (Ex.mk p0ck p0cn p0cnn p0cks) p0nn [p00, (Pg.mk 7 0 (Ex.mk p01ck p01cn p01cnn p01cks) p01nn [p010])]) 5
        have c2 := hc1 (Pg.mk 1 p1n (Ex.mk p1ck p1cn p1cnn p1cks) p1nn p1ks) 1
        have c3 := hc1 (Pg.mk 7 0 (Ex.mk p01ck p01cn p01cnn p01cks) p01nn [p010]) 7
        have c5 := hc3 p010 p00
        have c6 := hc4 (Pg.mk 7 0 (Ex.mk p01ck p01cn p01cnn p01cks) p01nn [p010]) gpp01
        simp only [qb, qc, eI, eB, eE_mk, eP_mk, Ex.k, Ex.n, Ex.nn, Ex.ks, Pk, bE,  lC, lN] at c0 c1 c2 c3 cE c5 c6
        refine af_of_res hr hm rfl fun hb => ?_
        simp +contextual (maxSteps := 5000000) -implicitDefEqProofs only [k_l06Ifs, fitL, fitI, fitS, qb, qc, go_sem]
        refine callQ_self (by rfl) c0 ?_
        simp +contextual (maxSteps := 5000000) -implicitDefEqProofs only [go_sem]
        refine callQ_self (by rfl) c1 ?_
        simp +contextual (maxSteps := 5000000) -implicitDefEqProofs only [go_sem]
        refine callQ_self (by rfl) c2 ?_
        simp +contextual (maxSteps := 5000000) -implicitDefEqProofs only [go_sem]
        refine callQ_self (by rfl) c3 ?_
        simp +contextual (maxSteps := 5000000) -implicitDefEqProofs only [go_sem]
        refine callQ_le (es := [.pt (.ag [.sc (.int .i64 p01ck), .sc (.int .i64 p01cn), .ls p01cnn 3 (p01cks.map eE)]) 0, .pt (.ag [.sc (.int .i64 pck), .sc (.int .i64 pcn), .ls pcnn 3 (pcks.map eE)]) 0]) rfl ⟨leA3, leA3, trivial⟩ cE ?_
        simp +contextual (maxSteps := 5000000) -implicitDefEqProofs only [go_sem]
        refine callQ_self (by rfl) c5 ?_
        simp +contextual (maxSteps := 5000000) -implicitDefEqProofs only [go_sem]
        refine callQ_self (by rfl) c6 ?_
        simp +contextual (maxSteps := 5000000) -implicitDefEqProofs only [go_sem]
     ·have ep017 : (p01k == 7) = false := beq_false_of_ne qp017
      refine ⟨(.mk 0 0 (.mk 0 0 (some true) []) (some true) []), ?_⟩
      have c0 := hc1 (Pg.mk 6 0 (Ex.mk pck pcn pcnn pcks) pnn [(Pg.mk 5 0 (Ex.mk p0ck p0cn p0cnn p0cks) p0nn [p00, (Pg.mk p01k p01n (Ex.mk p01ck p01cn p01cnn p01cks) p01nn p01ks)]), (Pg.mk 1 p1n (Ex.mk p1ck p1cn p1cnn p1cks) p1nn p1ks)]) 6
      have c1 := hc1 (Pg.mk 5 0 (Ex.mk p0ck p0cn p0cnn p0cks) p0nn [p00, (Pg.mk p01k p01n (Ex.mk p01ck p01cn p01cnn p01cks) p01nn p01ks)]) 5
      have c2 := hc1 (Pg.mk 1 p1n (Ex.mk p1ck p1cn p1cnn p1cks) p1nn p1ks) 1
      have c3 := hc1 (Pg.mk p01k p01n (Ex.mk p01ck p01cn p01cnn p01cks) p01nn p01ks) 7
      simp only [ep017, eI, eB, eP_mk, Ex.k, Ex.n, Ex.nn, Ex.ks, Pk, bE,  lC, lN] at c0 c1 c2 c3
      refine af_of_res hr hm rfl fun hb => ?_
      simp +contextual (maxSteps := 5000000) -implicitDefEqProofs only [k_l06Ifs, fitL, fitI, fitS, ep017, go_sem]
      refine callQ_self (by rfl) c0 ?_
      simp +contextual (maxSteps := 5000000) -implicitDefEqProofs only [go_sem]
      refine callQ_self (by rfl) c1 ?_
      simp +contextual (maxSteps := 5000000) -implicitDefEqProofs only [go_sem]
      refine callQ_self (by rfl) c2 ?_
      simp +contextual (maxSteps := 5000000) -implicitDefEqProofs only [go_sem]
      refine callQ_self (by rfl) c3 ?_
      simp +contextual (maxSteps := 5000000) -implicitDefEqProofs only [go_sem]
    ·have ep11 : (p1k == 1) = false := beq_false_of_ne qp11
     refine ⟨(.mk 0 0 (.mk 0 0 (some true) []) (some true) []), ?_⟩
     have c0 := hc1 (Pg.mk 6 0 (Ex.mk pck pcn pcnn pcks) pnn [(Pg.mk 5 0 (Ex.mk p0ck p0cn p0cnn p0cks) p0nn [p00, p01]), (Pg.mk p1k p1n (Ex.mk p1ck p1cn p1cnn p1cks) p1nn p1ks)]) 6
     have c1 := hc1 (Pg.mk 5 0 (Ex.mk p0ck p0cn p0cnn p0cks) p0nn [p00, p01]) 5
     have c2 := hc1 (Pg.mk p1k p1n (Ex.mk p1ck p1cn p1cnn p1cks) p1nn p1ks) 1
     simp only [ep11, eI, eB, eP_mk, Ex.k, Ex.n, Ex.nn, Ex.ks, Pk, bE,  lC, lN] at c0 c1 c2
     refine af_of_res hr hm rfl fun hb => ?_
     simp +contextual (maxSteps := 5000000) -implicitDefEqProofs only [k_l06Ifs, fitL, fitI, fitS, ep11, go_sem]
     refine callQ_self (by rfl) c0 ?_
     simp +contextual (maxSteps := 5000000) -implicitDefEqProofs only [go_sem]
     refine callQ_self (by rfl) c1 ?_
     simp +contextual (maxSteps := 5000000) -implicitDefEqProofs only [go_sem]
     refine callQ_self (by rfl) c2 ?_
     simp +contextual (maxSteps := 5000000) -implicitDefEqProofs only [go_sem]
   ·have ep05 : (p0k == 5) = false := beq_false_of_ne qp05
    refine ⟨(.mk 0 0 (.mk 0 0 (some true) []) (some true) []), ?_⟩
    have c0 := hc1 (Pg.mk 6 0 (Ex.mk pck pcn pcnn pcks) pnn [(Pg.mk p0k p0n (Ex.mk p0ck p0cn p0cnn p0cks) p0nn p0ks), (Pg.mk p1k p1n (Ex.mk p1ck p1cn p1cnn p1cks) p1nn p1ks)]) 6
    have c1 := hc1 (Pg.mk p0k p0n (Ex.mk p0ck p0cn p0cnn p0cks) p0nn p0ks) 5
    simp only [ep05, eI, eB, eP_mk, Ex.k, Ex.n, Ex.nn, Ex.ks, Pk, bE,  lC, lN] at c0 c1
    refine af_of_res hr hm rfl fun hb => ?_
    simp +contextual (maxSteps := 5000000) -implicitDefEqProofs only [k_l06Ifs, fitL, fitI, fitS, ep05, go_sem]
    refine callQ_self (by rfl) c0 ?_
    simp +contextual (maxSteps := 5000000) -implicitDefEqProofs only [go_sem]
    refine callQ_self (by rfl) c1 ?_
    simp +contextual (maxSteps := 5000000) -implicitDefEqProofs only [go_sem]
  ·have ep6 : (pk == 6) = false := beq_false_of_ne qp6
   refine ⟨(.mk 0 0 (.mk 0 0 (some true) []) (some true) []), ?_⟩
   have c0 := hc1 (Pg.mk pk pn (Ex.mk pck pcn pcnn pcks) pnn pks) 6
   simp only [ep6, eI, eB, eP_mk, Ex.k, Ex.n, Ex.nn, Ex.ks, Pk,  ] at c0
   refine af_of_res hr hm rfl fun hb => ?_
   simp +contextual (maxSteps := 5000000) -implicitDefEqProofs only [k_l06Ifs, fitL, fitI, fitS, ep6, go_sem]
   refine callQ_self (by rfl) c0 ?_
   simp +contextual (maxSteps := 5000000) -implicitDefEqProofs only [go_sem]
 ·by_cases qp6 : pk = 6
  ·subst qp6
   have gfp := (fitP_mk _ _ _ _ _).1 gpp
   obtain ⟨rfl, p0, p1, rfl, hp0, hp1⟩ := okT_two hp (by omega)
   have gpp0 : fitP p0 := gfp.2.2 p0 (by simp)
   have gpp1 : fitP p1 := gfp.2.2 p1 (by simp)
   have gcp : fitE (Ex.mk pck pcn pcnn pcks) := gfp.1
   obtain ⟨p0k, p0n, p0c, p0nn, p0ks, rfl⟩ := Pg.ex5 p0
   obtain ⟨p0ck, p0cn, p0cnn, p0cks, rfl⟩ := Ex.ex p0c
   have cE := hc3 (Pg.mk p0k p0n (Ex.mk p0ck p0cn p0cnn p0cks) p0nn p0ks) p1
   cases qb : qP (Pg.mk p0k p0n (Ex.mk p0ck p0cn p0cnn p0cks) p0nn p0ks) p1
   ·refine ⟨(.mk 0 0 (.mk 0 0 (some true) []) (some true) []), ?_⟩
    have c0 := hc1 (Pg.mk 6 0 (Ex.mk pck pcn pcnn pcks) pnn [(Pg.mk p0k p0n (Ex.mk p0ck p0cn p0cnn p0cks) p0nn p0ks), p1]) 6
    simp only [qb, eI, eB, eP_mk, Ex.k, Ex.n, Ex.nn, Ex.ks, Pk, bE,  lC, lN] at c0 cE
    refine af_of_res hr hm rfl fun hb => ?_
    simp +contextual (maxSteps := 5000000) -implicitDefEqProofs only [k_l06Ifs, fitL, fitI, fitS, qb, go_sem]
    refine callQ_self (by rfl) c0 ?_
    simp +contextual (maxSteps := 5000000) -implicitDefEqProofs only [go_sem]
    refine callQ_self (by rfl) cE ?_
    simp +contextual (maxSteps := 5000000) -implicitDefEqProofs only [go_sem]
   ·refine ⟨(cpP (Pg.mk p0k p0n (Ex.mk p0ck p0cn p0cnn p0cks) p0nn p0ks)), ?_⟩
    have c0 := hc1 (Pg.mk 6 0 (Ex.mk pck pcn pcnn pcks) pnn [(Pg.mk p0k p0n (Ex.mk p0ck p0cn p0cnn p0cks) p0nn p0ks), p1]) 6
    have c2 := hc4 (Pg.mk p0k p0n (Ex.mk p0ck p0cn p0cnn p0cks) p0nn p0ks) gpp0
    simp only [qb, eI, eB, eP_mk, Ex.k, Ex.n, Ex.nn, Ex.ks, Pk, bE,  lC, lN] at c0 cE c2
    refine af_of_res hr hm rfl fun hb => ?_
    simp +contextual (maxSteps := 5000000) -implicitDefEqProofs only [k_l06Ifs, fitL, fitI, fitS, qb, go_sem]
    refine callQ_self (by rfl) c0 ?_
    simp +contextual (maxSteps := 5000000) -implicitDefEqProofs only [go_sem]
    refine callQ_self (by rfl) cE ?_
    simp +contextual (maxSteps := 5000000) -implicitDefEqProofs only [go_sem]
    refine callQ_self (by rfl) c2 ?_
    simp +contextual (maxSteps := 5000000) -implicitDefEqProofs only [go_sem]
  ·have ep6 : (pk == 6) = false := beq_false_of_ne qp6
   refine ⟨(.mk 0 0 (.mk 0 0 (some true) []) (some true) []), ?_⟩
   have c0 := hc1 (Pg.mk pk pn (Ex.mk pck pcn pcnn pcks) pnn pks) 6
   simp only [ep6, eI, eB, eP_mk, Ex.k, Ex.n, Ex.nn, Ex.ks, Pk,  ] at c0
   refine af_of_res hr hm rfl fun hb => ?_
   simp +contextual (maxSteps := 5000000) -implicitDefEqProofs only [k_l06Ifs, fitL, fitI, fitS, ep6, go_sem]
   refine callQ_self (by rfl) c0 ?_
   simp +contextual (maxSteps := 5000000) -implicitDefEqProofs only [go_sem]
 ·by_cases qp6 : pk = 6
  ·subst qp6
   have gfp := (fitP_mk _ _ _ _ _).1 gpp
   obtain ⟨rfl, p0, p1, rfl, hp0, hp1⟩ := okT_two hp (by omega)
   have gpp0 : fitP p0 := gfp.2.2 p0 (by simp)
   have gpp1 : fitP p1 := gfp.2.2 p1 (by simp)
   have gcp : fitE (Ex.mk pck pcn pcnn pcks) := gfp.1
   obtain ⟨p0k, p0n, p0c, p0nn, p0ks, rfl⟩ := Pg.ex5 p0
   obtain ⟨p0ck, p0cn, p0cnn, p0cks, rfl⟩ := Ex.ex p0c
   obtain ⟨p1k, p1n, p1c, p1nn, p1ks, rfl⟩ := Pg.ex5 p1
   obtain ⟨p1ck, p1cn, p1cnn, p1cks, rfl⟩ := Ex.ex p1c
   refine ⟨(ifP (cpE (Ex.mk 5 0 (some false) [(cpE (Ex.mk pck pcn pcnn pcks))])) (cpP (Pg.mk p1k p1n (Ex.mk p1ck p1cn p1cnn p1cks) p1nn p1ks)) (cpP (Pg.mk p0k p0n (Ex.mk p0ck p0cn p0cnn p0cks) p0nn p0ks))), ?_⟩
   have c0 := hc1 (Pg.mk 6 0 (Ex.mk pck pcn pcnn pcks) pnn [(Pg.mk p0k p0n (Ex.mk p0ck p0cn p0cnn p0cks) p0nn p0ks), (Pg.mk p1k p1n (Ex.mk p1ck p1cn p1cnn p1cks) p1nn p1ks)]) 6
   have c1 := hc5 (Ex.mk pck pcn pcnn pcks) gcp
   have c2 := hc6 (Ex.mk 5 0 (some false) [(cpE (Ex.mk pck pcn pcnn pcks))]) (fitE_1 (fitE_cp _ gcp)) (Pg.mk p1k p1n (Ex.mk p1ck p1cn p1cnn p1cks) p1nn p1ks) gpp1 (Pg.mk p0k p0n (Ex.mk p0ck p0cn p0cnn p0cks) p0nn p0ks) gpp0
   simp only [eI, eB, eE_mk, eP_mk, Ex.k, Ex.n, Ex.nn, Ex.ks, Pk, bE, ifP,  lC, lN] at c0 c1 c2
   refine af_of_res hr hm rfl fun hb => ?_
   simp +contextual (maxSteps := 5000000) -implicitDefEqProofs only [k_l06Ifs, fitL, fitI, fitS, go_sem]
   refine callQ_self (by rfl) c0 ?_
   simp +contextual (maxSteps := 5000000) -implicitDefEqProofs only [go_sem]
   refine callQ_self (by rfl) c1 ?_
   simp +contextual (maxSteps := 5000000) -implicitDefEqProofs only [go_sem]
   refine callQ_self (by rfl) c2 ?_
   simp +contextual (maxSteps := 5000000) -implicitDefEqProofs only [go_sem]
  ·have ep6 : (pk == 6) = false := beq_false_of_ne qp6
   refine ⟨(.mk 0 0 (.mk 0 0 (some true) []) (some true) []), ?_⟩
   have c0 := hc1 (Pg.mk pk pn (Ex.mk pck pcn pcnn pcks) pnn pks) 6
   simp only [ep6, eI, eB, eP_mk, Ex.k, Ex.n, Ex.nn, Ex.ks, Pk,  ] at c0
   refine af_of_res hr hm rfl fun hb => ?_
   simp +contextual (maxSteps := 5000000) -implicitDefEqProofs only [k_l06Ifs, fitL, fitI, fitS, ep6, go_sem]
   refine callQ_self (by rfl) c0 ?_
   simp +contextual (maxSteps := 5000000) -implicitDefEqProofs only [go_sem]
 ·by_cases qp6 : pk = 6
  ·subst qp6
   have gfp := (fitP_mk _ _ _ _ _).1 gpp
   obtain ⟨rfl, p0, p1, rfl, hp0, hp1⟩ := okT_two hp (by omega)
   have gpp0 : fitP p0 := gfp.2.2 p0 (by simp)
   have gpp1 : fitP p1 := gfp.2.2 p1 (by simp)
   have gcp : fitE (Ex.mk pck pcn pcnn pcks) := gfp.1
   obtain ⟨p0k, p0n, p0c, p0nn, p0ks, rfl⟩ := Pg.ex5 p0
   obtain ⟨p0ck, p0cn, p0cnn, p0cks, rfl⟩ := Ex.ex p0c
   obtain ⟨p1k, p1n, p1c, p1nn, p1ks, rfl⟩ := Pg.ex5 p1
   obtain ⟨p1ck, p1cn, p1cnn, p1cks, rfl⟩ := Ex.ex p1c
   by_cases qp05 : p0k = 5
   ·subst qp05
    have gfp0 := (fitP_mk _ _ _ _ _).1 gpp0
    obtain ⟨rfl, p00, p01, rfl, hp00, hp01⟩ := okT_two hp0 (by omega)
    have gpp00 : fitP p00 := gfp0.2.2 p00 (by simp)
    have gpp01 : fitP p01 := gfp0.2.2 p01 (by simp)
    have gcp0 : fitE (Ex.mk p0ck p0cn p0cnn p0cks) := gfp0.1
    by_cases qp15 : p1k = 5
    ·subst qp15
     have gfp1 := (fitP_mk _ _ _ _ _).1 gpp1
     obtain ⟨rfl, p10, p11, rfl, hp10, hp11⟩ := okT_two hp1 (by omega)
     have gpp10 : fitP p10 := gfp1.2.2 p10 (by simp)
     have gpp11 : fitP p11 := gfp1.2.2 p11 (by simp)
     have gcp1 : fitE (Ex.mk p1ck p1cn p1cnn p1cks) := gfp1.1
     have cE := hc3 p01 p11
     cases qb : qP p01 p11
     ·refine ⟨(.mk 0 0 (.mk 0 0 (some true) []) (some true) []), ?_⟩
      have c0 := hc1 (Pg.mk 6 0 (Ex.mk pck pcn pcnn pcks) pnn [(Pg.mk 5 0 (Ex.mk p0ck p0cn p0cnn p0cks) p0nn [p00, p01]), (Pg.mk 5 0 (Ex.mk p1ck p1cn p1cnn p1cks) p1nn [p10, p11])]) 6
      have c1 := hc1 (Pg.mk 5 0 (Ex.mk p0ck p0cn p0cnn p0cks) p0nn [p00, p01]) 5
      have c2 := hc1 (Pg.mk 5 0 (Ex.mk p1ck p1cn p1cnn p1cks) p1nn [p10, p11]) 5
      simp only [qb, eI, eB, eP_mk, Ex.k, Ex.n, Ex.nn, Ex.ks, Pk, bE,  lC, lN] at c0 c1 c2 cE
      refine af_of_res hr hm rfl fun hb => ?_
      simp +contextual (maxSteps := 5000000) -implicitDefEqProofs only [k_l06Ifs, fitL, fitI, fitS, qb, go_sem]
      refine callQ_self (by rfl) c0 ?_
      simp +contextual (maxSteps := 5000000) -implicitDefEqProofs only [go_sem]
      refine callQ_self (by rfl) c1 ?_
      simp +contextual (maxSteps := 5000000) -implicitDefEqProofs only [go_sem]
      refine callQ_self (by rfl) c2 ?_
      simp +contextual (maxSteps := 5000000) -implicitDefEqProofs only [go_sem]
      refine callQ_self (by rfl) cE ?_
      simp +contextual (maxSteps := 5000000) -implicitDefEqProofs only [go_sem]
     ·refine ⟨(sqP (cpP (ifP (cpE (Ex.mk pck pcn pcnn pcks)) (cpP p00) (cpP p10))) (cpP p01)), ?_⟩
      have c0 := hc1 (Pg.mk 6 0 (Ex.mk pck pcn pcnn pcks) pnn [(Pg.mk 5 0 (Ex.mk p0ck p0cn p0cnn p0cks) p0nn [p00, p01]), (Pg.mk 5 0 (Ex.mk p1ck p1cn p1cnn p1cks) p1nn [p10, p11])]) 6
      have c1 := hc1 (Pg.mk 5 0 (Ex.mk p0ck p0cn p0cnn p0cks) p0nn [p00, p01]) 5
      have c2 := hc1 (Pg.mk 5 0 (Ex.mk p1ck p1cn p1cnn p1cks) p1nn [p10, p11]) 5
      have c4 := hc6 (Ex.mk pck pcn pcnn pcks) gcp p00 gpp00 p10 gpp10
      have c5 := hc7 (ifP (cpE (Ex.mk pck pcn pcnn pcks)) (cpP p00) (cpP p10)) (fitP_if (fitE_cp _ gcp) (fitP_cp _ gpp00) (fitP_cp _ gpp10)) p01 gpp01
      simp only [qb, eI, eB, eE_mk, eP_mk, Ex.k, Ex.n, Ex.nn, Ex.ks, Pk, bE, sqP, ifP,  lC, lN] at c0 c1 c2 cE c4 c5
      refine af_of_res hr hm rfl fun hb => ?_
      simp +contextual (maxSteps := 5000000) -implicitDefEqProofs only [k_l06Ifs, fitL, fitI, fitS, qb, go_sem]
      refine callQ_self (by rfl) c0 ?_
      simp +contextual (maxSteps := 5000000) -implicitDefEqProofs only [go_sem]
      refine callQ_self (by rfl) c1 ?_
      simp +contextual (maxSteps := 5000000) -implicitDefEqProofs only [go_sem]
      refine callQ_self (by rfl) c2 ?_
      simp +contextual (maxSteps := 5000000) -implicitDefEqProofs only [go_sem]
      refine callQ_self (by rfl) cE ?_
      simp +contextual (maxSteps := 5000000) -implicitDefEqProofs only [go_sem]
      refine callQ_self (by rfl) c4 ?_
      simp +contextual (maxSteps := 5000000) -implicitDefEqProofs only [go_sem]
      refine callQ_self (by rfl) c5 ?_
      simp +contextual (maxSteps := 5000000) -implicitDefEqProofs only [go_sem]
    ·have ep15 : (p1k == 5) = false := beq_false_of_ne qp15
     refine ⟨(.mk 0 0 (.mk 0 0 (some true) []) (some true) []), ?_⟩
     have c0 := hc1 (Pg.mk 6 0 (Ex.mk pck pcn pcnn pcks) pnn [(Pg.mk 5 0 (Ex.mk p0ck p0cn p0cnn p0cks) p0nn [p00, p01]), (Pg.mk p1k p1n (Ex.mk p1ck p1cn p1cnn p1cks) p1nn p1ks)]) 6
     have c1 := hc1 (Pg.mk 5 0 (Ex.mk p0ck p0cn p0cnn p0cks) p0nn [p00, p01]) 5
     have c2 := hc1 (Pg.mk p1k p1n (Ex.mk p1ck p1cn p1cnn p1cks) p1nn p1ks) 5
     simp only [ep15, eI, eB, eP_mk, Ex.k, Ex.n, Ex.nn, Ex.ks, Pk, bE,  lC, lN] at c0 c1 c2
     refine af_of_res hr hm rfl fun hb => ?_
     simp +contextual (maxSteps := 5000000) -implicitDefEqProofs only [k_l06Ifs, fitL, fitI, fitS, ep15, go_sem]
     refine callQ_self (by rfl) c0 ?_
     simp +contextual (maxSteps := 5000000) -implicitDefEqProofs only [go_sem]
     refine callQ_self (by rfl) c1 ?_
     simp +contextual (maxSteps := 5000000) -implicitDefEqProofs only [go_sem]
     refine callQ_self (by rfl) c2 ?_
     simp +contextual (maxSteps := 5000000) -implicitDefEqProofs only [go_sem]
   ·have ep05 : (p0k == 5) = false := beq_false_of_ne qp05
    refine ⟨(.mk 0 0 (.mk 0 0 (some true) []) (some true) []), ?_⟩
    have c0 := hc1 (Pg.mk 6 0 (Ex.mk pck pcn pcnn pcks) pnn [(Pg.mk p0k p0n (Ex.mk p0ck p0cn p0cnn p0cks) p0nn p0ks), (Pg.mk p1k p1n (Ex.mk p1ck p1cn p1cnn p1cks) p1nn p1ks)]) 6
    have c1 := hc1 (Pg.mk p0k p0n (Ex.mk p0ck p0cn p0cnn p0cks) p0nn p0ks) 5
    simp only [ep05, eI, eB, eP_mk, Ex.k, Ex.n, Ex.nn, Ex.ks, Pk, bE,  lC, lN] at c0 c1
    refine af_of_res hr hm rfl fun hb => ?_
    simp +contextual (maxSteps := 5000000) -implicitDefEqProofs only [k_l06Ifs, fitL, fitI, fitS, ep05, go_sem]
    refine callQ_self (by rfl) c0 ?_
    simp +contextual (maxSteps := 5000000) -implicitDefEqProofs only [go_sem]
    refine callQ_self (by rfl) c1 ?_
    simp +contextual (maxSteps := 5000000) -implicitDefEqProofs only [go_sem]
  ·have ep6 : (pk == 6) = false := beq_false_of_ne qp6
   refine ⟨(.mk 0 0 (.mk 0 0 (some true) []) (some true) []), ?_⟩
   have c0 := hc1 (Pg.mk pk pn (Ex.mk pck pcn pcnn pcks) pnn pks) 6
   simp only [ep6, eI, eB, eP_mk, Ex.k, Ex.n, Ex.nn, Ex.ks, Pk,  ] at c0
   refine af_of_res hr hm rfl fun hb => ?_
   simp +contextual (maxSteps := 5000000) -implicitDefEqProofs only [k_l06Ifs, fitL, fitI, fitS, ep6, go_sem]
   refine callQ_self (by rfl) c0 ?_
   simp +contextual (maxSteps := 5000000) -implicitDefEqProofs only [go_sem]

def k_l06Seqs (f1 f2 f3 f4 f5 : Nat) : RC := (.seq (.r [.o (.zer 4 6 .zp), .v 5 .cf]) (.seq (.seq (.r [.m 8 0, .c 9 f1 [.t 8, .ci 5], .o (.un 10 .not (.t 9))]) (.cond (.t 10) (.seq (.r [.o (.bld 11 .zp []), .s 6 4 11, .v 5 .cf]) .ret) .skip)) (.seq (.reg true [.m 12 0, .n 13 12, .f 14 5 13, .l 15 1 14, .i 16 6 15 0, .m 17 0, .n 18 17, .f 19 5 18, .l 20 1 19, .i 21 6 20 1, .m 6 16, .m 7 21]) (.seq (.seq (.r [.m 22 1]) (.blk 0 (.seq (.r [.q 24 22 5, .m 23 24]) (.cond (.t 23) (.seq (.r [.m 25 6, .c 26 f1 [.t 25, .ci 5]]) (.cond (.t 26) (.seq (.reg true [.m 27 6, .n 28 27, .f 29 5 28, .l 30 1 29, .i 31 6 30 0, .L 32 6 31, .m 33 6, .n 34 33, .f 35 5 34, .l 36 1 35, .i 37 6 36 1, .L 38 6 37, .m 39 7, .n 40 39, .L 41 6 40, .c 42 f2 [.t 38, .t 41], .c 43 f2 [.t 32, .t 42], .s 6 4 43, .v 5 .ct]) .ret) .skip)) (.seq (.r [.q 45 22 6, .m 44 45]) (.cond (.t 44) (.seq (.r [.m 46 7, .c 47 f1 [.t 46, .ci 5]]) (.cond (.t 47) (.seq (.reg true [.m 48 6, .n 49 48, .L 50 6 49, .m 51 7, .n 52 51, .f 53 5 52, .l 54 1 53, .i 55 6 54 0, .L 56 6 55, .c 57 f2 [.t 50, .t 56], .m 58 7, .n 59 58, .f 60 5 59, .l 61 1 60, .i 62 6 61 1, .L 63 6 62, .c 64 f2 [.t 57, .t 63], .s 6 4 64, .v 5 .ct]) .ret) .skip)) (.seq (.r [.q 66 22 7, .m 65 66]) (.cond (.t 65) (.seq (.seq (.r [.m 67 6, .c 68 f1 [.t 67, .ci 1]]) (.cond (.t 68) (.seq (.r [.m 69 7, .c 70 f3 [.t 69], .s 6 4 70, .v 5 .ct]) .ret) .skip)) (.seq (.r [.m 71 7, .c 72 f1 [.t 71, .ci 1]]) (.cond (.t 72) (.seq (.r [.m 73 6, .c 74 f3 [.t 73], .s 6 4 74, .v 5 .ct]) .ret) .skip))) (.seq (.r [.q 76 22 8, .m 75 76]) (.cond (.t 75) (.seq (.r [.m 77 6, .c 78 f1 [.t 77, .ci 6]]) (.cond (.t 78) (.seq (.reg true [.m 79 6, .n 80 79, .f 81 2 80, .L 82 3 81, .m 83 6, .n 84 83, .f 85 5 84, .l 86 1 85, .i 87 6 86 0, .L 88 6 87, .m 89 7, .n 90 89, .L 91 6 90, .c 92 f2 [.t 88, .t 91], .m 93 6, .n 94 93, .f 95 5 94, .l 96 1 95, .i 97 6 96 1, .L 98 6 97, .m 99 7, .n 100 99, .L 101 6 100, .c 102 f2 [.t 98, .t 101], .c 103 f4 [.t 82, .t 92, .t 102], .s 6 4 103, .v 5 .ct]) .ret) .skip)) (.seq (.r [.q 105 22 12, .m 104 105]) (.cond (.t 104) (.seq (.r [.m 106 6, .c 107 f1 [.t 106, .ci 4]]) (.cond (.t 107) (.seq (.reg true [.m 108 6, .n 109 108, .f 110 2 109, .L 111 3 110, .m 112 7, .n 113 112, .L 114 6 113, .o (.bld 115 .zp [(0, 1, (.ci 2))]), .c 116 f4 [.t 111, .t 114, .t 115], .s 6 4 116, .v 5 .ct]) .ret) .skip)) (.seq (.r [.q 118 22 13, .m 117 118]) (.cond (.t 117) (.seq (.reg true [.m 119 6, .c 120 f1 [.t 119, .ci 7], .m 121 120, .wm 121 122 7, .w 121 (.call (some 123) f1 [.t 122, .ci 6]), .k 124 121 123, .m 125 124, .wm 125 126 6, .w 125 (.nck 127 (.t 126)), .w 125 (.fa 128 2 (.t 127)), .wm 125 129 7, .w 125 (.nck 130 (.t 129)), .w 125 (.fa 131 2 (.t 130)), .w 125 (.call (some 132) f5 [.t 128, .t 131]), .k 133 125 132]) (.cond (.t 133) (.seq (.reg true [.m 134 6, .n 135 134, .L 136 6 135, .m 137 7, .n 138 137, .f 139 5 138, .l 140 1 139, .i 141 6 140 1, .L 142 6 141, .c 143 f2 [.t 136, .t 142], .s 6 4 143, .v 5 .ct]) .ret) .skip)) .skip)))))))))))))) (.seq (.r [.o (.bld 144 .zp []), .s 6 4 144, .v 5 .cf]) .ret)))))
def K_l06Seqs (P : Program) (fno : Nat) : Prop := ∀ (gs : Int × Int) (p : Pg) (r : Int), okT gs p → fitP p → (r ≠ 1 ∧ r ≠ 10 ∧ r ≠ 11 ∧ r ≠ 14 ∧ r ≠ 2 ∧ r ≠ 3 ∧ r ≠ 4 ∧ r ≠ 9) → ∃ q : Pg, AF P fno [.pt (eP p) 0, eI r] (.tup [.own (eP q), .own (eB (fitsP p r))])
theorem a_l06Seqs {P : Program} (hm : P.follows .mixedOrders = true) {g f1 f2 f3 f4 f5 : Nat} (hr : resF P g = some (145, k_l06Seqs f1 f2 f3 f4 f5, [.c 4 6 true, .t 5])) (hc1 : K_l06Is P f1) (hc2 : K_l06Seq P f2) (hc3 : K_l06Own P f3) (hc4 : K_l06If P f4) (hc5 : K_l01Same P f5) : K_l06Seqs P g := by
 intro gs p r hp gpp hr1
 obtain ⟨pk, pn, pc, pnn, pks, rfl⟩ := Pg.ex5 p
 obtain ⟨pck, pcn, pcnn, pcks, rfl⟩ := Ex.ex pc
 have er1 : (r == 1) = false := beq_false_of_ne (by omega)
 have er10 : (r == 10) = false := beq_false_of_ne (by omega)
 have er11 : (r == 11) = false := beq_false_of_ne (by omega)
 have er14 : (r == 14) = false := beq_false_of_ne (by omega)
 have er2 : (r == 2) = false := beq_false_of_ne (by omega)
 have er3 : (r == 3) = false := beq_false_of_ne (by omega)
 have er4 : (r == 4) = false := beq_false_of_ne (by omega)
 have er9 : (r == 9) = false := beq_false_of_ne (by omega)
 by_cases qp5 : pk = 5
 ·subst qp5
  have gfp := (fitP_mk _ _ _ _ _).1 gpp
  obtain ⟨rfl, p0, p1, rfl, hp0, hp1⟩ := okT_two hp (by omega)
  have gpp0 : fitP p0 := gfp.2.2 p0 (by simp)
  have gpp1 : fitP p1 := gfp.2.2 p1 (by simp)
  have gcp : fitE (Ex.mk pck pcn pcnn pcks) := gfp.1
  by_cases r5 : r = 5
  ·subst r5
   obtain ⟨p0k, p0n, p0c, p0nn, p0ks, rfl⟩ := Pg.ex5 p0
   obtain ⟨p0ck, p0cn, p0cnn, p0cks, rfl⟩ := Ex.ex p0c
   obtain ⟨p1k, p1n, p1c, p1nn, p1ks, rfl⟩ := Pg.ex5 p1
   obtain ⟨p1ck, p1cn, p1cnn, p1cks, rfl⟩ := Ex.ex p1c
   by_cases qp05 : p0k = 5
   ·subst qp05
    have gfp0 := (fitP_mk _ _ _ _ _).1 gpp0
    obtain ⟨rfl, p00, p01, rfl, hp00, hp01⟩ := okT_two hp0 (by omega)
    have gpp00 : fitP p00 := gfp0.2.2 p00 (by simp)
    have gpp01 : fitP p01 := gfp0.2.2 p01 (by simp)
    have gcp0 : fitE (Ex.mk p0ck p0cn p0cnn p0cks) := gfp0.1
    refine ⟨(sqP (cpP p00) (cpP (sqP (cpP p01) (cpP (Pg.mk p1k p1n (Ex.mk p1ck p1cn p1cnn p1cks) p1nn p1ks))))), ?_⟩
    have c0 := hc1 (Pg.mk 5 0 (Ex.mk pck pcn pcnn pcks) pnn [(Pg.mk 5 0 (Ex.mk p0ck p0cn p0cnn p0cks) p0nn [p00, p01]), (Pg.mk p1k p1n (Ex.mk p1ck p1cn p1cnn p1cks) p1nn p1ks)]) 5
    have c1 := hc1 (Pg.mk 5 0 (Ex.mk p0ck p0cn p0cnn p0cks) p0nn [p00, p01]) 5
    have c2 := hc2 p01 gpp01 (Pg.mk p1k p1n (Ex.mk p1ck p1cn p1cnn p1cks) p1nn p1ks) gpp1
    have c3 := hc2 p00 gpp00 (sqP (cpP p01) (cpP (Pg.mk p1k p1n (Ex.mk p1ck p1cn p1cnn p1cks) p1nn p1ks))) (fitP_sq (fitP_cp _ gpp01) (fitP_cp _ gpp1))
    simp only [eI, eB, eP_mk, Ex.k, Ex.n, Ex.nn, Ex.ks, Pk, bE, sqP,  lC, lN] at c0 c1 c2 c3
    refine af_of_res hr hm rfl fun hb => ?_
    simp +contextual (maxSteps := 5000000) -implicitDefEqProofs only [k_l06Seqs, fitL, fitI, fitS, er1, er10, er11, er14, er2, er3, er4, er9, go_sem]
    refine callQ_self (by rfl) c0 ?_
    simp +contextual (maxSteps := 5000000) -implicitDefEqProofs only [go_sem]
    refine callQ_self (by rfl) c1 ?_
    simp +contextual (maxSteps := 5000000) -implicitDefEqProofs only [go_sem]
    refine callQ_self (by rfl) c2 ?_
    simp +contextual (maxSteps := 5000000) -implicitDefEqProofs only [go_sem]
    refine callQ_self (by rfl) c3 ?_
    simp +contextual (maxSteps := 5000000) -implicitDefEqProofs only [go_sem]
   ·have ep05 : (p0k == 5) = false := beq_false_of_ne qp05
    refine ⟨(.mk 0 0 (.mk 0 0 (some true) []) (some true) []), ?_⟩
    have c0 := hc1 (Pg.mk 5 0 (Ex.mk pck pcn pcnn pcks) pnn [(Pg.mk p0k p0n (Ex.mk p0ck p0cn p0cnn p0cks) p0nn p0ks), (Pg.mk p1k p1n (Ex.mk p1ck p1cn p1cnn p1cks) p1nn p1ks)]) 5
    have c1 := hc1 (Pg.mk p0k p0n (Ex.mk p0ck p0cn p0cnn p0cks) p0nn p0ks) 5
    simp only [ep05, eI, eB, eP_mk, Ex.k, Ex.n, Ex.nn, Ex.ks, Pk, bE,  lC, lN] at c0 c1
    refine af_of_res hr hm rfl fun hb => ?_
    simp +contextual (maxSteps := 5000000) -implicitDefEqProofs only [k_l06Seqs, fitL, fitI, fitS, er1, er10, er11, er14, er2, er3, er4, er9, ep05, go_sem]
    refine callQ_self (by rfl) c0 ?_
    simp +contextual (maxSteps := 5000000) -implicitDefEqProofs only [go_sem]
    refine callQ_self (by rfl) c1 ?_
    simp +contextual (maxSteps := 5000000) -implicitDefEqProofs only [go_sem]
  ·have er5 : (r == 5) = false := beq_false_of_ne r5
   by_cases r6 : r = 6
   ·subst r6
    obtain ⟨p0k, p0n, p0c, p0nn, p0ks, rfl⟩ := Pg.ex5 p0
    obtain ⟨p0ck, p0cn, p0cnn, p0cks, rfl⟩ := Ex.ex p0c
    obtain ⟨p1k, p1n, p1c, p1nn, p1ks, rfl⟩ := Pg.ex5 p1
    obtain ⟨p1ck, p1cn, p1cnn, p1cks, rfl⟩ := Ex.ex p1c
    by_cases qp15 : p1k = 5
    ·subst qp15
     have gfp1 := (fitP_mk _ _ _ _ _).1 gpp1
     obtain ⟨rfl, p10, p11, rfl, hp10, hp11⟩ := okT_two hp1 (by omega)
     have gpp10 : fitP p10 := gfp1.2.2 p10 (by simp)
     have gpp11 : fitP p11 := gfp1.2.2 p11 (by simp)
     have gcp1 : fitE (Ex.mk p1ck p1cn p1cnn p1cks) := gfp1.1
     refine ⟨(sqP (cpP (sqP (cpP (Pg.mk p0k p0n (Ex.mk p0ck p0cn p0cnn p0cks) p0nn p0ks)) (cpP p10))) (cpP p11)), ?_⟩
     have c0 := hc1 (Pg.mk 5 0 (Ex.mk pck pcn pcnn pcks) pnn [(Pg.mk p0k p0n (Ex.mk p0ck p0cn p0cnn p0cks) p0nn p0ks), (Pg.mk 5 0 (Ex.mk p1ck p1cn p1cnn p1cks) p1nn [p10, p11])]) 5
     have c1 := hc1 (Pg.mk 5 0 (Ex.mk p1ck p1cn p1cnn p1cks) p1nn [p10, p11]) 5
     have c2 := hc2 (Pg.mk p0k p0n (Ex.mk p0ck p0cn p0cnn p0cks) p0nn p0ks) gpp0 p10 gpp10
     have c3 := hc2 (sqP (cpP (Pg.mk p0k p0n (Ex.mk p0ck p0cn p0cnn p0cks) p0nn p0ks)) (cpP p10)) (fitP_sq (fitP_cp _ gpp0) (fitP_cp _ gpp10)) p11 gpp11
     simp only [eI, eB, eP_mk, Ex.k, Ex.n, Ex.nn, Ex.ks, Pk, bE, sqP,  lC, lN] at c0 c1 c2 c3
     refine af_of_res hr hm rfl fun hb => ?_
     simp +contextual (maxSteps := 5000000) -implicitDefEqProofs only [k_l06Seqs, fitL, fitI, fitS, er1, er10, er11, er14, er2, er3, er4, er9, er5, go_sem]
     refine callQ_self (by rfl) c0 ?_
     simp +contextual (maxSteps := 5000000) -implicitDefEqProofs only [er5, go_sem]
     refine callQ_self (by rfl) c1 ?_
     simp +contextual (maxSteps := 5000000) -implicitDefEqProofs only [go_sem]
     refine callQ_self (by rfl) c2 ?_
     simp +contextual (maxSteps := 5000000) -implicitDefEqProofs only [go_sem]
     refine callQ_self (by rfl) c3 ?_
     simp +contextual (maxSteps := 5000000) -implicitDefEqProofs only [go_sem]
    ·have ep15 : (p1k == 5) = false := beq_false_of_ne qp15
     refine ⟨(.mk 0 0 (.mk 0 0 (some true) []) (some true) []), ?_⟩
     have c0 := hc1 (Pg.mk 5 0 (Ex.mk pck pcn pcnn pcks) pnn [(Pg.mk p0k p0n (Ex.mk p0ck p0cn p0cnn p0cks) p0nn p0ks), (Pg.mk p1k p1n (Ex.mk p1ck p1cn p1cnn p1cks) p1nn p1ks)]) 5
     have c1 := hc1 (Pg.mk p1k p1n (Ex.mk p1ck p1cn p1cnn p1cks) p1nn p1ks) 5
     simp only [ep15, eI, eB, eP_mk, Ex.k, Ex.n, Ex.nn, Ex.ks, Pk, bE,  lC, lN] at c0 c1
     refine af_of_res hr hm rfl fun hb => ?_
     simp +contextual (maxSteps := 5000000) -implicitDefEqProofs only [k_l06Seqs, fitL, fitI, fitS, er1, er10, er11, er14, er2, er3, er4, er9, er5, ep15, go_sem]
     refine callQ_self (by rfl) c0 ?_
     simp +contextual (maxSteps := 5000000) -implicitDefEqProofs only [er5, go_sem]
     refine callQ_self (by rfl) c1 ?_
     simp +contextual (maxSteps := 5000000) -implicitDefEqProofs only [go_sem]
   ·have er6 : (r == 6) = false := beq_false_of_ne r6
    by_cases r7 : r = 7
    ·subst r7
     obtain ⟨p0k, p0n, p0c, p0nn, p0ks, rfl⟩ := Pg.ex5 p0
     obtain ⟨p0ck, p0cn, p0cnn, p0cks, rfl⟩ := Ex.ex p0c
     obtain ⟨p1k, p1n, p1c, p1nn, p1ks, rfl⟩ := Pg.ex5 p1
     obtain ⟨p1ck, p1cn, p1cnn, p1cks, rfl⟩ := Ex.ex p1c
     by_cases qp01 : p0k = 1
     ·subst qp01
      have gcp0 : fitE (Ex.mk p0ck p0cn p0cnn p0cks) := ((fitP_mk _ _ _ _ _).1 gpp0).1
      refine ⟨(cpP (Pg.mk p1k p1n (Ex.mk p1ck p1cn p1cnn p1cks) p1nn p1ks)), ?_⟩
      have c0 := hc1 (Pg.mk 5 0 (Ex.mk pck pcn pcnn pcks) pnn [(Pg.mk 1 p0n (Ex.mk p0ck p0cn p0cnn p0cks) p0nn p0ks), (Pg.mk p1k p1n (Ex.mk p1ck p1cn p1cnn p1cks) p1nn p1ks)]) 5
      have c1 := hc1 (Pg.mk 1 p0n (Ex.mk p0ck p0cn p0cnn p0cks) p0nn p0ks) 1
      have c2 := hc3 (Pg.mk p1k p1n (Ex.mk p1ck p1cn p1cnn p1cks) p1nn p1ks) gpp1
      simp only [eI, eB, eP_mk, Ex.k, Ex.n, Ex.nn, Ex.ks, Pk, bE,  lC, lN] at c0 c1 c2
      refine af_of_res hr hm rfl fun hb => ?_
      simp +contextual (maxSteps := 5000000) -implicitDefEqProofs only [k_l06Seqs, fitL, fitI, fitS, er1, er10, er11, er14, er2, er3, er4, er9, er5, er6, go_sem]
      refine callQ_self (by rfl) c0 ?_
      simp +contextual (maxSteps := 5000000) -implicitDefEqProofs only [er5, er6, go_sem]
      refine callQ_self (by rfl) c1 ?_
      simp +contextual (maxSteps := 5000000) -implicitDefEqProofs only [go_sem]
      refine callQ_self (by rfl) c2 ?_
      simp +contextual (maxSteps := 5000000) -implicitDefEqProofs only [go_sem]
     ·have ep01 : (p0k == 1) = false := beq_false_of_ne qp01
      by_cases qp11 : p1k = 1
      ·subst qp11
       have gcp1 : fitE (Ex.mk p1ck p1cn p1cnn p1cks) := ((fitP_mk _ _ _ _ _).1 gpp1).1
       refine ⟨(cpP (Pg.mk p0k p0n (Ex.mk p0ck p0cn p0cnn p0cks) p0nn p0ks)), ?_⟩
       have c0 := hc1 (Pg.mk 5 0 (Ex.mk pck pcn pcnn pcks) pnn [(Pg.mk p0k p0n (Ex.mk p0ck p0cn p0cnn p0cks) p0nn p0ks), (Pg.mk 1 p1n (Ex.mk p1ck p1cn p1cnn p1cks) p1nn p1ks)]) 5
       have c1 := hc1 (Pg.mk p0k p0n (Ex.mk p0ck p0cn p0cnn p0cks) p0nn p0ks) 1
       have c2 := hc1 (Pg.mk 1 p1n (Ex.mk p1ck p1cn p1cnn p1cks) p1nn p1ks) 1
       have c3 := hc3 (Pg.mk p0k p0n (Ex.mk p0ck p0cn p0cnn p0cks) p0nn p0ks) gpp0
       simp only [ep01, eI, eB, eP_mk, Ex.k, Ex.n, Ex.nn, Ex.ks, Pk, bE,  lC, lN] at c0 c1 c2 c3
       refine af_of_res hr hm rfl fun hb => ?_
       simp +contextual (maxSteps := 5000000) -implicitDefEqProofs only [k_l06Seqs, fitL, fitI, fitS, er1, er10, er11, er14, er2, er3, er4, er9, er5, er6, ep01, go_sem]
       refine callQ_self (by rfl) c0 ?_
       simp +contextual (maxSteps := 5000000) -implicitDefEqProofs only [er5, er6, go_sem]
       refine callQ_self (by rfl) c1 ?_
       simp +contextual (maxSteps := 5000000) -implicitDefEqProofs only [go_sem]
       refine callQ_self (by rfl) c2 ?_
       simp +contextual (maxSteps := 5000000) -implicitDefEqProofs only [go_sem]
       refine callQ_self (by rfl) c3 ?_
       simp +contextual (maxSteps := 5000000) -implicitDefEqProofs only [go_sem]
      ·have ep11 : (p1k == 1) = false := beq_false_of_ne qp11
       refine ⟨(.mk 0 0 (.mk 0 0 (some true) []) (some true) []), ?_⟩
       have c0 := hc1 (Pg.mk 5 0 (Ex.mk pck pcn pcnn pcks) pnn [(Pg.mk p0k p0n (Ex.mk p0ck p0cn p0cnn p0cks) p0nn p0ks), (Pg.mk p1k p1n (Ex.mk p1ck p1cn p1cnn p1cks) p1nn p1ks)]) 5
       have c1 := hc1 (Pg.mk p0k p0n (Ex.mk p0ck p0cn p0cnn p0cks) p0nn p0ks) 1
       have c2 := hc1 (Pg.mk p1k p1n (Ex.mk p1ck p1cn p1cnn p1cks) p1nn p1ks) 1
       simp only [ep01, ep11, eI, eB, eP_mk, Ex.k, Ex.n, Ex.nn, Ex.ks, Pk, bE,  lC, lN] at c0 c1 c2
       refine af_of_res hr hm rfl fun hb => ?_
       simp +contextual (maxSteps := 5000000) -implicitDefEqProofs only [k_l06Seqs, fitL, fitI, fitS, er1, er10, er11, er14, er2, er3, er4, er9, er5, er6, ep01, ep11, go_sem]
       refine callQ_self (by rfl) c0 ?_
       simp +contextual (maxSteps := 5000000) -implicitDefEqProofs only [er5, er6, go_sem]
       refine callQ_self (by rfl) c1 ?_
       simp +contextual (maxSteps := 5000000) -implicitDefEqProofs only [go_sem]
       refine callQ_self (by rfl) c2 ?_
       simp +contextual (maxSteps := 5000000) -implicitDefEqProofs only [go_sem]
    ·have er7 : (r == 7) = false := beq_false_of_ne r7
     by_cases r8 : r = 8
     ·subst r8
      obtain ⟨p0k, p0n, p0c, p0nn, p0ks, rfl⟩ := Pg.ex5 p0
      obtain ⟨p0ck, p0cn, p0cnn, p0cks, rfl⟩ := Ex.ex p0c
      obtain ⟨p1k, p1n, p1c, p1nn, p1ks, rfl⟩ := Pg.ex5 p1
      obtain ⟨p1ck, p1cn, p1cnn, p1cks, rfl⟩ := Ex.ex p1c
      by_cases qp06 : p0k = 6
      ·subst qp06
       have gfp0 := (fitP_mk _ _ _ _ _).1 gpp0
       obtain ⟨rfl, p00, p01, rfl, hp00, hp01⟩ := okT_two hp0 (by omega)
       have gpp00 : fitP p00 := gfp0.2.2 p00 (by simp)
       have gpp01 : fitP p01 := gfp0.2.2 p01 (by simp)
       have gcp0 : fitE (Ex.mk p0ck p0cn p0cnn p0cks) := gfp0.1
       refine ⟨(ifP (cpE (Ex.mk p0ck p0cn p0cnn p0cks)) (cpP (sqP (cpP p00) (cpP (Pg.mk p1k p1n (Ex.mk p1ck p1cn p1cnn p1cks) p1nn p1ks)))) (cpP (sqP (cpP p01) (cpP (Pg.mk p1k p1n (Ex.mk p1ck p1cn p1cnn p1cks) p1nn p1ks))))), ?_⟩
       have c0 := hc1 (Pg.mk 5 0 (Ex.mk pck pcn pcnn pcks) pnn [(Pg.mk 6 0 (Ex.mk p0ck p0cn p0cnn p0cks) p0nn [p00, p01]), (Pg.mk p1k p1n (Ex.mk p1ck p1cn p1cnn p1cks) p1nn p1ks)]) 5
       have c1 := hc1 (Pg.mk 6 0 (Ex.mk p0ck p0cn p0cnn p0cks) p0nn [p00, p01]) 6
       have c2 := hc2 p00 gpp00 (Pg.mk p1k p1n (Ex.mk p1ck p1cn p1cnn p1cks) p1nn p1ks) gpp1
       have c3 := hc2 p01 gpp01 (Pg.mk p1k p1n (Ex.mk p1ck p1cn p1cnn p1cks) p1nn p1ks) gpp1
       have c4 := hc4 (Ex.mk p0ck p0cn p0cnn p0cks) gcp0 (sqP (cpP p00) (cpP (Pg.mk p1k p1n (Ex.mk p1ck p1cn p1cnn p1cks) p1nn p1ks))) (fitP_sq (fitP_cp _ gpp00) (fitP_cp _ gpp1)) (sqP (cpP p01) (cpP (Pg.mk p1k p1n (Ex.mk p1ck p1cn p1cnn p1cks) p1nn p1ks))) (fitP_sq (fitP_cp _ gpp01) (fitP_cp _ gpp1))
       simp only [eI, eB, eE_mk, eP_mk, Ex.k, Ex.n, Ex.nn, Ex.ks, Pk, bE, sqP, ifP,  lC, lN] at c0 c1 c2 c3 c4
       refine af_of_res hr hm rfl fun hb => ?_
       simp +contextual (maxSteps := 5000000) -implicitDefEqProofs only [k_l06Seqs, fitL, fitI, fitS, er1, er10, er11, er14, er2, er3, er4, er9, er5, er6, er7, go_sem]
       refine callQ_self (by rfl) c0 ?_
       simp +contextual (maxSteps := 5000000) -implicitDefEqProofs only [er5, er6, er7, go_sem]
       refine callQ_self (by rfl) c1 ?_
       simp +contextual (maxSteps := 5000000) -implicitDefEqProofs only [go_sem]
       refine callQ_self (by rfl) c2 ?_
       simp +contextual (maxSteps := 5000000) -implicitDefEqProofs only [go_sem]
       refine callQ_self (by rfl) c3 ?_
       simp +contextual (maxSteps := 5000000) -implicitDefEqProofs only [go_sem]
       refine callQ_self (by rfl) c4 ?_
       simp +contextual (maxSteps := 5000000) -implicitDefEqProofs only [go_sem]
      ·have ep06 : (p0k == 6) = false := beq_false_of_ne qp06
       refine ⟨(.mk 0 0 (.mk 0 0 (some true) []) (some true) []), ?_⟩
       have c0 := hc1 (Pg.mk 5 0 (Ex.mk pck pcn pcnn pcks) pnn [(Pg.mk p0k p0n (Ex.mk p0ck p0cn p0cnn p0cks) p0nn p0ks), (Pg.mk p1k p1n (Ex.mk p1ck p1cn p1cnn p1cks) p1nn p1ks)]) 5
       have c1 := hc1 (Pg.mk p0k p0n (Ex.mk p0ck p0cn p0cnn p0cks) p0nn p0ks) 6
       simp only [ep06, eI, eB, eP_mk, Ex.k, Ex.n, Ex.nn, Ex.ks, Pk, bE,  lC, lN] at c0 c1
       refine af_of_res hr hm rfl fun hb => ?_
       simp +contextual (maxSteps := 5000000) -implicitDefEqProofs only [k_l06Seqs, fitL, fitI, fitS, er1, er10, er11, er14, er2, er3, er4, er9, er5, er6, er7, ep06, go_sem]
       refine callQ_self (by rfl) c0 ?_
       simp +contextual (maxSteps := 5000000) -implicitDefEqProofs only [er5, er6, er7, go_sem]
       refine callQ_self (by rfl) c1 ?_
       simp +contextual (maxSteps := 5000000) -implicitDefEqProofs only [go_sem]
     ·have er8 : (r == 8) = false := beq_false_of_ne r8
      by_cases r12 : r = 12
      ·subst r12
       obtain ⟨p0k, p0n, p0c, p0nn, p0ks, rfl⟩ := Pg.ex5 p0
       obtain ⟨p0ck, p0cn, p0cnn, p0cks, rfl⟩ := Ex.ex p0c
       obtain ⟨p1k, p1n, p1c, p1nn, p1ks, rfl⟩ := Pg.ex5 p1
       obtain ⟨p1ck, p1cn, p1cnn, p1cks, rfl⟩ := Ex.ex p1c
       by_cases qp04 : p0k = 4
       ·subst qp04
        have gcp0 : fitE (Ex.mk p0ck p0cn p0cnn p0cks) := ((fitP_mk _ _ _ _ _).1 gpp0).1
        refine ⟨(ifP (cpE (Ex.mk p0ck p0cn p0cnn p0cks)) (cpP (Pg.mk p1k p1n (Ex.mk p1ck p1cn p1cnn p1cks) p1nn p1ks)) (cpP (Pg.mk 2 0 (Ex.mk 0 0 (some true) []) (some true) []))), ?_⟩
        have c0 := hc1 (Pg.mk 5 0 (Ex.mk pck pcn pcnn pcks) pnn [(Pg.mk 4 p0n (Ex.mk p0ck p0cn p0cnn p0cks) p0nn p0ks), (Pg.mk p1k p1n (Ex.mk p1ck p1cn p1cnn p1cks) p1nn p1ks)]) 5
        have c1 := hc1 (Pg.mk 4 p0n (Ex.mk p0ck p0cn p0cnn p0cks) p0nn p0ks) 4
        have c2 := hc4 (Ex.mk p0ck p0cn p0cnn p0cks) gcp0 (Pg.mk p1k p1n (Ex.mk p1ck p1cn p1cnn p1cks) p1nn p1ks) gpp1 (Pg.mk 2 0 (Ex.mk 0 0 (some true) []) (some true) []) fitP_z
        simp only [eI, eB, eE_mk, eP_mk, Ex.k, Ex.n, Ex.nn, Ex.ks, Pk, bE, ifP,  lC, lN] at c0 c1 c2
        refine af_of_res hr hm rfl fun hb => ?_
        simp +contextual (maxSteps := 5000000) -implicitDefEqProofs only [k_l06Seqs, fitL, fitI, fitS, er1, er10, er11, er14, er2, er3, er4, er9, er5, er6, er7, er8, go_sem]
        refine callQ_self (by rfl) c0 ?_
        simp +contextual (maxSteps := 5000000) -implicitDefEqProofs only [er5, er6, er7, er8, go_sem]
        refine callQ_self (by rfl) c1 ?_
        simp +contextual (maxSteps := 5000000) -implicitDefEqProofs only [go_sem]
        refine callQ_self (by rfl) c2 ?_
        simp +contextual (maxSteps := 5000000) -implicitDefEqProofs only [go_sem]
       ·have ep04 : (p0k == 4) = false := beq_false_of_ne qp04
        refine ⟨(.mk 0 0 (.mk 0 0 (some true) []) (some true) []), ?_⟩
        have c0 := hc1 (Pg.mk 5 0 (Ex.mk pck pcn pcnn pcks) pnn [(Pg.mk p0k p0n (Ex.mk p0ck p0cn p0cnn p0cks) p0nn p0ks), (Pg.mk p1k p1n (Ex.mk p1ck p1cn p1cnn p1cks) p1nn p1ks)]) 5
        have c1 := hc1 (Pg.mk p0k p0n (Ex.mk p0ck p0cn p0cnn p0cks) p0nn p0ks) 4
        simp only [ep04, eI, eB, eP_mk, Ex.k, Ex.n, Ex.nn, Ex.ks, Pk, bE,  lC, lN] at c0 c1
        refine af_of_res hr hm rfl fun hb => ?_
        simp +contextual (maxSteps := 5000000) -implicitDefEqProofs only [k_l06Seqs, fitL, fitI, fitS, er1, er10, er11, er14, er2, er3, er4, er9, er5, er6, er7, er8, ep04, go_sem]
        refine callQ_self (by rfl) c0 ?_
        simp +contextual (maxSteps := 5000000) -implicitDefEqProofs only [er5, er6, er7, er8, go_sem]
        refine callQ_self (by rfl) c1 ?_
        simp +contextual (maxSteps := 5000000) -implicitDefEqProofs only [go_sem]
      ·have er12 : (r == 12) = false := beq_false_of_ne r12
       by_cases r13 : r = 13
       ·subst r13
        obtain ⟨p0k, p0n, p0c, p0nn, p0ks, rfl⟩ := Pg.ex5 p0
        obtain ⟨p0ck, p0cn, p0cnn, p0cks, rfl⟩ := Ex.ex p0c
        obtain ⟨p1k, p1n, p1c, p1nn, p1ks, rfl⟩ := Pg.ex5 p1
        obtain ⟨p1ck, p1cn, p1cnn, p1cks, rfl⟩ := Ex.ex p1c
        by_cases qp07 : p0k = 7
        ·subst qp07
         have gfp0 := (fitP_mk _ _ _ _ _).1 gpp0
         obtain ⟨rfl, p00, rfl, hp00⟩ := okT_one hp0 (by omega)
         have gpp00 : fitP p00 := gfp0.2.2 p00 (by simp)
         have gcp0 : fitE (Ex.mk p0ck p0cn p0cnn p0cks) := gfp0.1
         by_cases qp16 : p1k = 6
         ·subst qp16
          have gfp1 := (fitP_mk _ _ _ _ _).1 gpp1
          obtain ⟨rfl, p10, p11, rfl, hp10, hp11⟩ := okT_two hp1 (by omega)
          have gpp10 : fitP p10 := gfp1.2.2 p10 (by simp)
          have gpp11 : fitP p11 := gfp1.2.2 p11 (by simp)
          have gcp1 : fitE (Ex.mk p1ck p1cn p1cnn p1cks) := gfp1.1
          have cE := hc5 (Ex.mk p0ck p0cn p0cnn p0cks) (Ex.mk p1ck p1cn p1cnn p1cks)
          cases qb : qE (Ex.mk p0ck p0cn p0cnn p0cks) (Ex.mk p1ck p1cn p1cnn p1cks)
          ·refine ⟨(.mk 0 0 (.mk 0 0 (some true) []) (some true) []), ?_⟩
           have c0 := hc1 (Pg.mk 5 0 (Ex.mk pck pcn pcnn pcks) pnn [(Pg.mk 7 0 (Ex.mk p0ck p0cn p0cnn p0cks) p0nn [p00]), (Pg.mk 6 0 (Ex.mk p1ck p1cn p1cnn p1cks) p1nn [p10, p11])]) 5
           have c1 := hc1 (Pg.mk 7 0 (Ex.mk p0ck p0cn p0cnn p0cks) p0nn [p00]) 7
           have c2 := hc1 (Pg.mk 6 0 (Ex.mk p1ck p1cn p1cnn p1cks) p1nn [p10, p11]) 6
           simp only [qb, eI, eB, eE_mk, eP_mk, Ex.k, Ex.n, Ex.nn, Ex.ks, Pk, bE,  lC, lN] at c0 c1 c2 cE
           refine af_of_res hr hm rfl fun hb => ?_
           simp +contextual (maxSteps := 5000000) -implicitDefEqProofs only [k_l06Seqs, fitL, fitI, fitS, er1, er10, er11, er14, er2, er3, er4, er9, er5, er6, er7, er8, er12, qb, go_sem]
           refine callQ_self (by rfl) c0 ?_
           simp +contextual (maxSteps := 5000000) -implicitDefEqProofs only [er5, er6, er7, er8, er12, go_sem]
           refine callQ_self (by rfl) c1 ?_
           simp +contextual (maxSteps := 5000000) -implicitDefEqProofs only [go_sem]
           refine callQ_self (by rfl) c2 ?_
           simp +contextual (maxSteps := 5000000) -implicitDefEqProofs only [go_sem]
           refine callQ_le (es := [.pt (.ag [.sc (.int .i64 p0ck), .sc (.int .i64 p0cn), .ls p0cnn 3 (p0cks.map eE)]) 0, .pt (.ag [.sc (.int .i64 p1ck), .sc (.int .i64 p1cn), .ls p1cnn 3 (p1cks.map eE)]) 0]) rfl ⟨leA3, leA3, trivial⟩ cE ?_
           simp +contextual (maxSteps := 5000000) -implicitDefEqProofs only [go_sem]
          ·refine ⟨(sqP (cpP (Pg.mk 7 0 (Ex.mk p0ck p0cn p0cnn p0cks) p0nn [p00])) (cpP p11)), ?_⟩
           have c0 := hc1 (Pg.mk 5 0 (Ex.mk pck pcn pcnn pcks) pnn [(Pg.mk 7 0 (Ex.mk p0ck p0cn p0cnn p0cks) p0nn [p00]), (Pg.mk 6 0 (Ex.mk p1ck p1cn p1cnn p1cks) p1nn [p10, p11])]) 5
           have c1 := hc1 (Pg.mk 7 0 (Ex.mk p0ck p0cn p0cnn p0cks) p0nn [p00]) 7
           have c2 := hc1 (Pg.mk 6 0 (Ex.mk p1ck p1cn p1cnn p1cks) p1nn [p10, p11]) 6
           have c4 := hc2 (Pg.mk 7 0 (Ex.mk p0ck p0cn p0cnn p0cks) p0nn [p00]) gpp0 p11 gpp11
           simp only [qb, eI, eB, eE_mk, eP_mk, Ex.k, Ex.n, Ex.nn, Ex.ks, Pk, bE, sqP,  lC, lN] at c0 c1 c2 cE c4
           refine af_of_res hr hm rfl fun hb => ?_
           simp +contextual (maxSteps := 5000000) -implicitDefEqProofs only [k_l06Seqs, fitL, fitI, fitS, er1, er10, er11, er14, er2, er3, er4, er9, er5, er6, er7, er8, er12, qb, go_sem]
           refine callQ_self (by rfl) c0 ?_
           simp +contextual (maxSteps := 5000000) -implicitDefEqProofs only [er5, er6, er7, er8, er12, go_sem]
           refine callQ_self (by rfl) c1 ?_
           simp +contextual (maxSteps := 5000000) -implicitDefEqProofs only [go_sem]
           refine callQ_self (by rfl) c2 ?_
           simp +contextual (maxSteps := 5000000) -implicitDefEqProofs only [go_sem]
           refine callQ_le (es := [.pt (.ag [.sc (.int .i64 p0ck), .sc (.int .i64 p0cn), .ls p0cnn 3 (p0cks.map eE)]) 0, .pt (.ag [.sc (.int .i64 p1ck), .sc (.int .i64 p1cn), .ls p1cnn 3 (p1cks.map eE)]) 0]) rfl ⟨leA3, leA3, trivial⟩ cE ?_
           simp +contextual (maxSteps := 5000000) -implicitDefEqProofs only [go_sem]
           refine callQ_self (by rfl) c4 ?_
           simp +contextual (maxSteps := 5000000) -implicitDefEqProofs only [go_sem]
         ·have ep16 : (p1k == 6) = false := beq_false_of_ne qp16
          refine ⟨(.mk 0 0 (.mk 0 0 (some true) []) (some true) []), ?_⟩
          have c0 := hc1 (Pg.mk 5 0 (Ex.mk pck pcn pcnn pcks) pnn [(Pg.mk 7 0 (Ex.mk p0ck p0cn p0cnn p0cks) p0nn [p00]), (Pg.mk p1k p1n (Ex.mk p1ck p1cn p1cnn p1cks) p1nn p1ks)]) 5
          have c1 := hc1 (Pg.mk 7 0 (Ex.mk p0ck p0cn p0cnn p0cks) p0nn [p00]) 7
          have c2 := hc1 (Pg.mk p1k p1n (Ex.mk p1ck p1cn p1cnn p1cks) p1nn p1ks) 6
          simp only [ep16, eI, eB, eP_mk, Ex.k, Ex.n, Ex.nn, Ex.ks, Pk, bE,  lC, lN] at c0 c1 c2
          refine af_of_res hr hm rfl fun hb => ?_
          simp +contextual (maxSteps := 5000000) -implicitDefEqProofs only [k_l06Seqs, fitL, fitI, fitS, er1, er10, er11, er14, er2, er3, er4, er9, er5, er6, er7, er8, er12, ep16, go_sem]
          refine callQ_self (by rfl) c0 ?_
          simp +contextual (maxSteps := 5000000) -implicitDefEqProofs only [er5, er6, er7, er8, er12, go_sem]
          refine callQ_self (by rfl) c1 ?_
          simp +contextual (maxSteps := 5000000) -implicitDefEqProofs only [go_sem]
          refine callQ_self (by rfl) c2 ?_
          simp +contextual (maxSteps := 5000000) -implicitDefEqProofs only [go_sem]
        ·have ep07 : (p0k == 7) = false := beq_false_of_ne qp07
         refine ⟨(.mk 0 0 (.mk 0 0 (some true) []) (some true) []), ?_⟩
         have c0 := hc1 (Pg.mk 5 0 (Ex.mk pck pcn pcnn pcks) pnn [(Pg.mk p0k p0n (Ex.mk p0ck p0cn p0cnn p0cks) p0nn p0ks), (Pg.mk p1k p1n (Ex.mk p1ck p1cn p1cnn p1cks) p1nn p1ks)]) 5
         have c1 := hc1 (Pg.mk p0k p0n (Ex.mk p0ck p0cn p0cnn p0cks) p0nn p0ks) 7
         simp only [ep07, eI, eB, eP_mk, Ex.k, Ex.n, Ex.nn, Ex.ks, Pk, bE,  lC, lN] at c0 c1
         refine af_of_res hr hm rfl fun hb => ?_
         simp +contextual (maxSteps := 5000000) -implicitDefEqProofs only [k_l06Seqs, fitL, fitI, fitS, er1, er10, er11, er14, er2, er3, er4, er9, er5, er6, er7, er8, er12, ep07, go_sem]
         refine callQ_self (by rfl) c0 ?_
         simp +contextual (maxSteps := 5000000) -implicitDefEqProofs only [er5, er6, er7, er8, er12, go_sem]
         refine callQ_self (by rfl) c1 ?_
         simp +contextual (maxSteps := 5000000) -implicitDefEqProofs only [go_sem]
       ·have er13 : (r == 13) = false := beq_false_of_ne r13
        refine ⟨(.mk 0 0 (.mk 0 0 (some true) []) (some true) []), ?_⟩
        have c0 := hc1 (Pg.mk 5 0 (Ex.mk pck pcn pcnn pcks) pnn [p0, p1]) 5
        simp only [eI, eB, eP_mk, Ex.k, Ex.n, Ex.nn, Ex.ks, Pk, bE,  lC, lN] at c0
        refine af_of_res hr hm rfl fun hb => ?_
        simp +contextual (maxSteps := 5000000) -implicitDefEqProofs only [k_l06Seqs, fitL, fitI, fitS, er1, er10, er11, er14, er2, er3, er4, er9, er5, er6, er7, er8, er12, er13, go_sem]
        refine callQ_self (by rfl) c0 ?_
        simp +contextual (maxSteps := 5000000) -implicitDefEqProofs only [er5, er6, er7, er8, er12, er13, go_sem]
 ·have ep5 : (pk == 5) = false := beq_false_of_ne qp5
  refine ⟨(.mk 0 0 (.mk 0 0 (some true) []) (some true) []), ?_⟩
  have c0 := hc1 (Pg.mk pk pn (Ex.mk pck pcn pcnn pcks) pnn pks) 5
  simp only [ep5, eI, eB, eP_mk, Ex.k, Ex.n, Ex.nn, Ex.ks, Pk,  ] at c0
  refine af_of_res hr hm rfl fun hb => ?_
  simp +contextual (maxSteps := 5000000) -implicitDefEqProofs only [k_l06Seqs, fitL, fitI, fitS, ep5, er1, er10, er11, er14, er2, er3, er4, er9, go_sem]
  refine callQ_self (by rfl) c0 ?_
  simp +contextual (maxSteps := 5000000) -implicitDefEqProofs only [go_sem]

theorem Ent.smTr (st : St) (t k : Nat) {sz l : Nat} {es : List D} (hu : lu st.us k = some (.ar true (some false) sz es)) (hl : l = es.length) (ht : lk st.env t = .sm k 0 l) :
  Ent st ⟨st.n, (t, .tr k) :: (st.del k).env, (k, .own (.ls (some false) sz es)) :: (st.del k).us⟩ := by
 intro n0 S0 M0 w0 a w hs
 obtain ⟨g, hU, hv⟩ := hs.gh
 have h0 := hv t
 rw [ht] at h0
 obtain ⟨own, d, st', g', F, hk, T, r1, r2, r3, r4, r5⟩ := takeA_ok hU (Took.refl hU hv) h0 (k := fun own d st' => own = true ∧ d = .ls (some false) sz es ∧ st' = st.del k) (by simp [takeA, takeSm, St.unit, hu, hl])
 obtain ⟨rfl, rfl, rfl⟩ := hk
 obtain ⟨p1, p2⟩ := r3.1 rfl
 have hno : k ∉ (st.del k).us.map (·.1) := by
  show k ∉ (killU k (AV.refs k) st.us).map (·.1)
  rw [keys_killU]; simp [List.mem_filter]
 obtain ⟨hA, hV⟩ := T.us.addG (u := .own (.ls (some false) sz es)) (β := none) (cap := 0) (F := F) (v := a.tmps.getD t undef) (n := k) hno (fun b hb => r1.lt b hb) p1 (fun b hb => (p2 b hb).1) (fun b hb => (p2 b hb).2.2.1)
  (fun b hb => (p2 b hb).2.1) (fun b hb => hU.fz b (p2 b hb).2.2.2) (by simp only [UOk, Gh.add, if_true]; exact ⟨trivial, r1, r2⟩)
 refine ⟨hs.ms, hs.dfr, hs.tm, hs.base, hs.os, hs.tape, hs.output, hs.size, hs.old, _, hA, fun x => ?_⟩
 simp only [lk]
 split
 ·next hx =>
  subst hx
  simp only [VRep]
  exact ⟨⟨.ls (some false) sz es, by simp⟩, by simp [Gh.add]⟩
 ·exact hV _ _ (T.rep x)
theorem np_L : ∀ l : List Int, noPtrs (l.map eI) = true
 | [] => rfl
 | x :: l => by simp only [lC, noPtrs, eI, D.noPtr, np_L l, Bool.and_self]
theorem sz_L {l : List Int} : ∀ d ∈ l.map eI, d.size = 1 := by
 intro d hd
 obtain ⟨x, _, rfl⟩ := List.mem_map.1 hd
 rfl

def eL (l : List Int) : D := .ls (some false) 1 (l.map eI)
theorem stPs_snoc {r : Int} {path : List Int} : ∀ (es : List Pg) (e : Pg) (i : Nat), stPs r (es ++ [e]) path i = stPs r es path i ++ stP r e (path ++ [((i + es.length : Nat) : Int)])
 | [], e, i => by simp [stPs]
 | x :: es, e, i => by
  simp only [List.cons_append, stPs, stPs_snoc es e (i + 1), lK, List.append_assoc]
  rw [show i + 1 + es.length = i + (es.length + 1) by omega]
def pre0 (r : Int) (p : Pg) (path : List Int) : List (List Int) := if fitsP p r = true then [path] else []
def upTo (r : Int) (p : Pg) (ks : List Pg) (path : List Int) (i : Nat) : List (List Int) := pre0 r p path ++ stPs r (ks.take i) path 0
theorem upTo_0 {r : Int} {p : Pg} {ks : List Pg} {path : List Int} : upTo r p ks path 0 = pre0 r p path := by simp [upTo, stPs]
theorem upTo_s {r : Int} {p : Pg} {ks : List Pg} {path : List Int} {i : Nat} (h : i < ks.length) : upTo r p ks path (i + 1) = upTo r p ks path i ++ stP r ks[i] (path ++ [(i : Int)]) := by
 unfold upTo
 rw [List.take_add_one, List.getElem?_eq_getElem h]
 simp only [Option.toList_some]
 rw [stPs_snoc, List.append_assoc]
 simp [List.length_take, Nat.min_eq_left (Nat.le_of_lt h)]
theorem upTo_all {r k n : Int} {c : Ex} {nn : Option Bool} {ks : List Pg} {path : List Int} {i : Nat} (h : ks.length ≤ i) : upTo r (.mk k n c nn ks) ks path i = stP r (.mk k n c nn ks) path := by
 unfold upTo pre0
 rw [List.take_of_length_le h, stP_mk]
theorem stP_len {r : Int} : ∀ (p : Pg) (path : List Int), (stP r p path).length ≤ sizeP p :=
 Pg.ind fun k n c nn ks ih path => by
  have key : ∀ (l : List Pg), (∀ e ∈ l, ∀ path, (stP r e path).length ≤ sizeP e) → ∀ i, (stPs r l path i).length ≤ sizePs l := by
   intro l
   induction l with
   | nil => intro _ i; simp [stPs]
   | cons e l ihl =>
    intro h i
    have h1 := h e (by simp) (path ++ [(i : Int)])
    have h2 := ihl (fun x hx => h x (by simp [hx])) (i + 1)
    simp only [stPs, sizePs, lP]
    omega
  have h1 := key ks ih 0
  rw [stP_mk, sizeP_mk, lP]
  split <;> simp <;> omega
theorem upTo_len {r : Int} {p : Pg} {ks : List Pg} {path : List Int} {i : Nat} : (upTo r p ks path i).length ≤ 1 + sizePs ks := by
 have key : ∀ (l : List Pg) (j : Nat), (stPs r l path j).length ≤ sizePs l := by
  intro l
  induction l with
  | nil => intro j; simp [stPs]
  | cons e l ih =>
   intro j
   have h1 := stP_len (r := r) e (path ++ [(j : Int)])
   have h2 := ih (j + 1)
   simp only [stPs, sizePs, lP]
   omega
 have tk : ∀ (l : List Pg) (i : Nat), sizePs (l.take i) ≤ sizePs l := by
  intro l
  induction l with
  | nil => intro i; simp
  | cons e l ih =>
   intro i
   cases i with
   | zero => simp [sizePs]
   | succ i => have := ih i; simp only [List.take_succ_cons, sizePs]; omega
 have h1 := key (ks.take i) 0
 have h2 := tk ks i
 unfold upTo pre0
 rw [lP]
 split <;> simp <;> omega

def k_l06Applied (f1 f2 f3 : Nat) : RC := (.seq (.r [.o (.zer 4 6 .zp), .v 5 .cf]) (.seq (.seq (.r [.m 6 1]) (.blk 0 (.seq (.seq (.r [.q 8 6 1, .m 7 8]) (.cond (.t 7) .skip (.seq (.r [.q 9 6 10, .m 7 9]) (.cond (.t 7) .skip (.seq (.r [.q 10 6 11, .m 7 10]) (.cond (.t 7) .skip (.r [.q 11 6 14, .m 7 11]))))))) (.cond (.t 7) (.seq (.r [.m 12 0, .m 13 1, .c 14 f1 [.t 12, .t 13], .o (.ext 15 (.t 14) 0), .o (.ext 16 (.t 14) 1), .s 6 4 15, .m 5 16]) .ret) (.seq (.seq (.r [.q 18 6 2, .m 17 18]) (.cond (.t 17) .skip (.seq (.r [.q 19 6 3, .m 17 19]) (.cond (.t 17) .skip (.seq (.r [.q 20 6 4, .m 17 20]) (.cond (.t 17) .skip (.r [.q 21 6 9, .m 17 21]))))))) (.cond (.t 17) (.seq (.r [.m 22 0, .m 23 1, .c 24 f2 [.t 22, .t 23], .o (.ext 25 (.t 24) 0), .o (.ext 26 (.t 24) 1), .s 6 4 25, .m 5 26]) .ret) .skip)))))) (.seq (.r [.m 27 0, .m 28 1, .c 29 f3 [.t 27, .t 28], .o (.ext 30 (.t 29) 0), .o (.ext 31 (.t 29) 1), .s 6 4 30, .m 5 31]) .ret)))
def K_l06Applied (P : Program) (fno : Nat) : Prop := ∀ (gs : Int × Int) (p : Pg) (r : Int), okT gs p → fitP p → ∃ q : Pg, AF P fno [.pt (eP p) 0, eI r] (.tup [.own (eP q), .own (eB (fitsP p r))])
theorem a_l06Applied {P : Program} (hm : P.follows .mixedOrders = true) {g f1 f2 f3 : Nat} (hr : resF P g = some (32, k_l06Applied f1 f2 f3, [.c 4 6 true, .t 5])) (hc1 : K_l06Loops P f1) (hc2 : K_l06Ifs P f2) (hc3 : K_l06Seqs P f3) : K_l06Applied P g := by
 intro gs p r hp hf
 by_cases hL : r = 1 ∨ r = 10 ∨ r = 11 ∨ r = 14
 ·obtain ⟨q, c0⟩ := hc1 gs p r hp hf hL
  refine ⟨q, ?_⟩
  generalize fitsP p r = bb at c0 ⊢
  rcases hL with rfl | rfl | rfl | rfl
  ·refine af_of_res hr hm rfl fun hb => ?_
   simp +contextual (maxSteps := 5000000) -implicitDefEqProofs only [k_l06Applied, go_sem]
   refine callQ_self (by rfl) c0 ?_
   simp +contextual (maxSteps := 5000000) -implicitDefEqProofs only [encP.sub, go_sem]
  ·refine af_of_res hr hm rfl fun hb => ?_
   simp +contextual (maxSteps := 5000000) -implicitDefEqProofs only [k_l06Applied, go_sem]
   refine callQ_self (by rfl) c0 ?_
   simp +contextual (maxSteps := 5000000) -implicitDefEqProofs only [encP.sub, go_sem]
  ·refine af_of_res hr hm rfl fun hb => ?_
   simp +contextual (maxSteps := 5000000) -implicitDefEqProofs only [k_l06Applied, go_sem]
   refine callQ_self (by rfl) c0 ?_
   simp +contextual (maxSteps := 5000000) -implicitDefEqProofs only [encP.sub, go_sem]
  ·refine af_of_res hr hm rfl fun hb => ?_
   simp +contextual (maxSteps := 5000000) -implicitDefEqProofs only [k_l06Applied, go_sem]
   refine callQ_self (by rfl) c0 ?_
   simp +contextual (maxSteps := 5000000) -implicitDefEqProofs only [encP.sub, go_sem]
 ·by_cases hI : r = 2 ∨ r = 3 ∨ r = 4 ∨ r = 9
  ·obtain ⟨q, c0⟩ := hc2 gs p r hp hf hI
   refine ⟨q, ?_⟩
   generalize fitsP p r = bb at c0 ⊢
   rcases hI with rfl | rfl | rfl | rfl
   ·refine af_of_res hr hm rfl fun hb => ?_
    simp +contextual (maxSteps := 5000000) -implicitDefEqProofs only [k_l06Applied, go_sem]
    refine callQ_self (by rfl) c0 ?_
    simp +contextual (maxSteps := 5000000) -implicitDefEqProofs only [encP.sub, go_sem]
   ·refine af_of_res hr hm rfl fun hb => ?_
    simp +contextual (maxSteps := 5000000) -implicitDefEqProofs only [k_l06Applied, go_sem]
    refine callQ_self (by rfl) c0 ?_
    simp +contextual (maxSteps := 5000000) -implicitDefEqProofs only [encP.sub, go_sem]
   ·refine af_of_res hr hm rfl fun hb => ?_
    simp +contextual (maxSteps := 5000000) -implicitDefEqProofs only [k_l06Applied, go_sem]
    refine callQ_self (by rfl) c0 ?_
    simp +contextual (maxSteps := 5000000) -implicitDefEqProofs only [encP.sub, go_sem]
   ·refine af_of_res hr hm rfl fun hb => ?_
    simp +contextual (maxSteps := 5000000) -implicitDefEqProofs only [k_l06Applied, go_sem]
    refine callQ_self (by rfl) c0 ?_
    simp +contextual (maxSteps := 5000000) -implicitDefEqProofs only [encP.sub, go_sem]
  ·obtain ⟨q, c0⟩ := hc3 gs p r hp hf (by omega)
   refine ⟨q, ?_⟩
   generalize fitsP p r = bb at c0 ⊢
   have r1 : (r == 1) = false := beq_false_of_ne (by omega)
   have r10 : (r == 10) = false := beq_false_of_ne (by omega)
   have r11 : (r == 11) = false := beq_false_of_ne (by omega)
   have r14 : (r == 14) = false := beq_false_of_ne (by omega)
   have r2 : (r == 2) = false := beq_false_of_ne (by omega)
   have r3 : (r == 3) = false := beq_false_of_ne (by omega)
   have r4 : (r == 4) = false := beq_false_of_ne (by omega)
   have r9 : (r == 9) = false := beq_false_of_ne (by omega)
   refine af_of_res hr hm rfl fun hb => ?_
   simp +contextual (maxSteps := 5000000) -implicitDefEqProofs only [k_l06Applied, r1, r10, r11, r14, r2, r3, r4, r9, go_sem]
   refine callQ_self (by rfl) c0 ?_
   simp +contextual (maxSteps := 5000000) -implicitDefEqProofs only [encP.sub, go_sem]

def k_l00Own : RC := (.seq (.r [.o (.mv 2 (.c (.ls (some true) 1 [])))]) (.seq (.r [.o (.bs 3 1 (.sc (.int .i64 0)) 0 []), .m 4 0, .o (.app 5 1 8 (.t 3) (.t 4)), .m 2 5]) .ret))
def K_l00Own (P : Program) (fno : Nat) : Prop := ∀ (a : List Int) (h : a.length ≤ 1000000), AF P fno [eL a] (.own (eL a))
theorem a_l00Own {P : Program} (hm : P.follows .mixedOrders = true) {g : Nat} (hr : resF P g = some (6, k_l00Own, [.t 2])) : K_l00Own P g := by
 intro a h
 unfold eL
 refine af_of_res hr hm rfl fun hb => ?_
 cases a with
 | nil =>
  simp +contextual (maxSteps := 5000000) -implicitDefEqProofs only [k_l00Own, go_sem]
  exact ⟨by unfold maxEl; omega, by simp⟩
 | cons b l =>
  simp +contextual (maxSteps := 5000000) -implicitDefEqProofs only [k_l00Own, np_L, go_sem]
  simp only [lK] at h
  exact ⟨by omega, by unfold maxEl; omega, sz_L (l := b :: l)⟩
def uO (L : List (List Int)) : U := .ar true none 1 [.ls (some false) 1 (L.map eL)]
theorem depthPs_mem : ∀ {ks : List Pg} {x : Pg}, x ∈ ks → depthP x ≤ depthPs ks
 | [], _, h => by cases h
 | e :: es, x, h => by
  simp only [depthPs]
  rcases List.mem_cons.1 h with rfl | h
  ·omega
  ·have := depthPs_mem h; omega
theorem upTo_size {r : Int} {p : Pg} {ks : List Pg} {path : List Int} {i : Nat} (h : i < ks.length) : (upTo r p ks path i).length + sizeP ks[i] ≤ 1 + sizePs ks := by
 have key : ∀ (l : List Pg) (j i : Nat) (h : i < l.length), (stPs r (l.take i) path j).length + sizeP l[i] ≤ sizePs l := by
  intro l
  induction l with
  | nil => intro j i h; simp at h
  | cons e l ih =>
   intro j i h
   cases i with
   | zero => simp [stPs, sizePs]
   | succ i =>
    have h1 := stP_len (r := r) e (path ++ [(j : Int)])
    have h2 := ih (j + 1) i (by simpa using h)
    simp only [List.take_succ_cons, stPs, sizePs, lP, List.getElem_cons_succ]
    omega
 have h1 := key ks 0 i h
 unfold upTo pre0
 rw [lP]
 split <;> simp <;> omega

def k_l06Sites (g f1 f2 : Nat) : RC := (.seq (.seq (.r [.m 12 0, .m 13 2, .c 14 f1 [.t 12, .t 13], .m 11 14, .o (.ext 15 (.t 11) 0), .o (.ext 16 (.t 11) 1), .o (.zer 8 6 .zp), .s 6 8 15, .m 9 16]) (.seq (.r [.m 17 9]) (.cond (.t 17) (.reg true [.m 18 3, .m 19 3, .n 20 19, .l 21 1 20, .m 22 1, .c 23 f2 [.t 22], .o (.bs 24 1 (.ls (some true) 1 []) 1 [(0, (.t 23))]), .o (.app 25 1 24 (.t 21) (.t 24)), .n 26 18, .s 1 26 25]) .skip))) (.seq (.r [.v 10 (.ci 0)]) (.blk 0 (.loop (.seq (.seq (.r [.m 27 10, .m 28 0, .n 29 28, .f 30 5 29, .l 31 1 30, .o (.len 32 (.t 31)), .o (.bin 33 .lss (.t 27) (.t 32))]) (.cond (.t 33) .skip (.exit 0))) (.seq (.blk 1 (.regL [.m 36 0, .n 37 36, .f 38 5 37, .l 39 1 38, .m 40 10, .o (.ia 41 6 (.t 39) (.t 40)), .m 42 1, .c 43 f2 [.t 42], .m 44 10, .o (.bs 45 1 (.sc (.int .i64 0)) 1 [(0, (.t 44))]), .m 47 2, .m 48 3] [([(.ld 39 false 1 (.t 38)), (.ia 41 6 (.t 39) (.t 40))], .o (.app 46 1 8 (.t 43) (.t 45))), ([(.ld 39 false 1 (.t 38)), (.ia 41 6 (.t 39) (.t 40))], .o (.wcl (some 49) g [.t 41, .t 46, .t 47, .t 48]))])) (.r [.m 34 10, .o (.bin 35 .add (.t 34) (.ci 1)), .m 10 35])))))))
def K_l06Sites (P : Program) (fno : Nat) : Prop := ∀ (gs : Int × Int) (r : Int) (p : Pg), okT gs p → fitP p → ∀ (path : List Int) (L : List (List Int)), path.length + depthP p ≤ 1000 → L.length + sizeP p ≤ 1000000 → AFW P fno [uO L] [.im none (.pt (eP p) 0), .im none (eL path), .im none (eI r), .pw 3000000000 0 0] [uO (L ++ stP r p path)] (.tup [])
theorem a_l06Sites {P : Program} (hm : P.follows .mixedOrders = true) {g f1 f2 : Nat} (hr : resF P g = some (50, k_l06Sites g f1 f2, [])) (hc1 : K_l06Applied P f1) (hc2 : K_l00Own P f2) : K_l06Sites P g := by
 intro gs r p hp hf
 refine Pg.ind (p := fun p => okT gs p → fitP p → ∀ (path : List Int) (L : List (List Int)), path.length + depthP p ≤ 1000 → L.length + sizeP p ≤ 1000000 → AFW P g [uO L] [.im none (.pt (eP p) 0), .im none (eL path), .im none (eI r), .pw 3000000000 0 0] [uO (L ++ stP r p path)] (.tup [])) (fun k n c nn ks ih hp hf path L hd hl => ?_) p hp hf
 obtain ⟨ck, cn, cnn, cks, rfl⟩ := Ex.ex c
 obtain ⟨q, hA⟩ := hc1 gs (Pg.mk k n (Ex.mk ck cn cnn cks) nn ks) r hp hf
 have hO := hc2 path (by omega)
 have hk2 := okT_le hp
 have hkid := (okT_form hp).2.2.2
 have hfk := ((fitP_mk _ _ _ _ _).1 hf).2.2
 rw [depthP_mk] at hd
 rw [sizeP_mk] at hl
 generalize hbb : fitsP (Pg.mk k n (Ex.mk ck cn cnn cks) nn ks) r = bb at hA
 simp only [eP_mk, eI, eB, Ex.k, Ex.n, Ex.nn, Ex.ks] at hA
 simp only [eL] at hO
 cases bb
 ·refine afw_of_res (wv := .no) hr hm rfl rfl rfl fun hb ha => ?_
  simp +contextual (maxSteps := 5000000) -implicitDefEqProofs only [k_l06Sites, uO, eL, go_sem]
  refine callQ_self (by rfl) hA ?_
  simp +contextual (maxSteps := 5000000) -implicitDefEqProofs only [go_sem]
  refine vc_onU (α := Nat) [8, 10, 27, 28, 29, 30, 31, 32, 33, 34, 35, 36, 37, 38, 39, 40, 41, 42, 43, 44, 45, 46, 47, 48, 49] (fun i => [(10, .im none (.sc (.int .i64 i)))]) (fun i => [(3000000000, .ar true none 1 [.ls (some false) 1 ((L ++ upTo r (Pg.mk k n (Ex.mk ck cn cnn cks) nn ks) ks path i).map eL)])]) (fun i => i ≤ ks.length) (fun i => ks.length - i) 0 (Ent.to [8] (by simp only [go_sem]; rfl) rfl (by simp [upTo_0, pre0, hbb]) (by rfl) (by simp only [subEnv, go_sem, keep, memN] <;> simp)) (Nat.zero_le _) ?_
  intro i hi0
  by_cases hi : i < ks.length
  ·have e1 := at_map (f := eP) hi
   have hup := upTo_s (r := r) (p := (Pg.mk k n (Ex.mk ck cn cnn cks) nn ks)) (path := path) hi
   have hub := upTo_len (r := r) (p := (Pg.mk k n (Ex.mk ck cn cnn cks) nn ks)) (ks := ks) (path := path) (i := i)
   have hdk := depthPs_mem (List.getElem_mem hi)
   have hsk := upTo_size (r := r) (p := (Pg.mk k n (Ex.mk ck cn cnn cks) nn ks)) (path := path) hi
   have ih1 := ih ks[i] (List.getElem_mem hi) (hkid _ (List.getElem_mem hi)) (hfk _ (List.getElem_mem hi)) (path ++ [(i : Int)]) (L ++ upTo r (Pg.mk k n (Ex.mk ck cn cnn cks) nn ks) ks path i) (by simp only [lP, lK, lZ]; omega) (by simp only [lP]; omega)
   rw [List.append_assoc, ← hup] at ih1
   generalize hM : L ++ upTo r (Pg.mk k n (Ex.mk ck cn cnn cks) nn ks) ks path i = M at ih1 ⊢
   generalize hM2 : L ++ upTo r (Pg.mk k n (Ex.mk ck cn cnn cks) nn ks) ks path (i + 1) = M2 at ih1 ⊢
   simp only [uO, eL, eI, List.map_append, lC, lN] at ih1
   simp +contextual (maxSteps := 5000000) -implicitDefEqProofs only [hi, e1, go_sem]
   refine callQ_self (by rfl) hO ?_
   simp +contextual (maxSteps := 5000000) -implicitDefEqProofs only [hi, e1, go_sem]
   refine ⟨by decide, ⟨by omega, by unfold maxEl; omega, by simp [D.size]⟩, ?_⟩
   refine wcl_self [3000000000] [] (by rfl) (by rfl) (by rfl) ih1 rfl (by simp [wOut, outU, noPtrs, D.noPtr]) ?_
   simp +contextual (maxSteps := 5000000) -implicitDefEqProofs only [go_sem]
   rw [wrap_i64 (by omega) (by omega)]
   exact ⟨i + 1, by omega, by omega, Ent.to [46] (by simp only [go_sem]; rfl) rfl (by simp [hM2]) (by rfl) (by simp only [subEnv, go_sem] <;> simp)⟩
  ·simp +contextual (maxSteps := 5000000) -implicitDefEqProofs only [hi, go_sem]
   rw [upTo_all (by omega)]
 ·refine afw_of_res (wv := .no) hr hm rfl rfl rfl fun hb ha => ?_
  simp +contextual (maxSteps := 5000000) -implicitDefEqProofs only [k_l06Sites, uO, eL, go_sem]
  refine callQ_self (by rfl) hA ?_
  simp +contextual (maxSteps := 5000000) -implicitDefEqProofs only [go_sem]
  refine callQ_self (by rfl) hO ?_
  simp +contextual (maxSteps := 5000000) -implicitDefEqProofs only [go_sem]
  refine ⟨by decide, ⟨by omega, by unfold maxEl; omega, by simp [D.size]⟩, ?_⟩
  refine vc_onU (α := Nat) [8, 10, 27, 28, 29, 30, 31, 32, 33, 34, 35, 36, 37, 38, 39, 40, 41, 42, 43, 44, 45, 46, 47, 48, 49] (fun i => [(10, .im none (.sc (.int .i64 i)))]) (fun i => [(3000000000, .ar true none 1 [.ls (some false) 1 ((L ++ upTo r (Pg.mk k n (Ex.mk ck cn cnn cks) nn ks) ks path i).map eL)])]) (fun i => i ≤ ks.length) (fun i => ks.length - i) 0 (Ent.to [8] (by simp only [go_sem]; rfl) rfl (by simp [upTo_0, pre0, hbb, eL]) (by rfl) (by simp only [subEnv, go_sem, keep, memN] <;> simp)) (Nat.zero_le _) ?_
  intro i hi0
  by_cases hi : i < ks.length
  ·have e1 := at_map (f := eP) hi
   have hup := upTo_s (r := r) (p := (Pg.mk k n (Ex.mk ck cn cnn cks) nn ks)) (path := path) hi
   have hub := upTo_len (r := r) (p := (Pg.mk k n (Ex.mk ck cn cnn cks) nn ks)) (ks := ks) (path := path) (i := i)
   have hdk := depthPs_mem (List.getElem_mem hi)
   have hsk := upTo_size (r := r) (p := (Pg.mk k n (Ex.mk ck cn cnn cks) nn ks)) (path := path) hi
   have ih1 := ih ks[i] (List.getElem_mem hi) (hkid _ (List.getElem_mem hi)) (hfk _ (List.getElem_mem hi)) (path ++ [(i : Int)]) (L ++ upTo r (Pg.mk k n (Ex.mk ck cn cnn cks) nn ks) ks path i) (by simp only [lP, lK, lZ]; omega) (by simp only [lP]; omega)
   rw [List.append_assoc, ← hup] at ih1
   generalize hM : L ++ upTo r (Pg.mk k n (Ex.mk ck cn cnn cks) nn ks) ks path i = M at ih1 ⊢
   generalize hM2 : L ++ upTo r (Pg.mk k n (Ex.mk ck cn cnn cks) nn ks) ks path (i + 1) = M2 at ih1 ⊢
   simp only [uO, eL, eI, List.map_append, lC, lN] at ih1
   simp +contextual (maxSteps := 5000000) -implicitDefEqProofs only [hi, e1, go_sem]
   refine callQ_self (by rfl) hO ?_
   simp +contextual (maxSteps := 5000000) -implicitDefEqProofs only [hi, e1, go_sem]
   refine ⟨by decide, ⟨by omega, by unfold maxEl; omega, by simp [D.size]⟩, ?_⟩
   refine wcl_self [3000000000] [] (by rfl) (by rfl) (by rfl) ih1 rfl (by simp [wOut, outU, noPtrs, D.noPtr]) ?_
   simp +contextual (maxSteps := 5000000) -implicitDefEqProofs only [go_sem]
   rw [wrap_i64 (by omega) (by omega)]
   exact ⟨i + 1, by omega, by omega, Ent.to [46] (by simp only [go_sem]; rfl) rfl (by simp [hM2]) (by rfl) (by simp only [subEnv, go_sem] <;> simp)⟩
  ·simp +contextual (maxSteps := 5000000) -implicitDefEqProofs only [hi, go_sem]
   rw [upTo_all (by omega)]
def sitesR (gs : Int × Int) (p : Pg) (r : Int) : List (List Int) × Int := if (okG gs && okP gs p) = true then (if isIn r 1 14 = true then (stP r p [], 0) else ([], 2)) else ([], 1)
theorem okP_sz {gs : Int × Int} {p : Pg} (h : okP gs p = true) : sizeP p ≤ 60 ∧ depthP p ≤ 20 ∧ okT gs p := by
 unfold okP at h
 simp only [bA, decide_eq_true_eq] at h
 exact h

def k_spSitesOf (f1 f2 f3 : Nat) : RC := (.seq (.r [.b 3 2 0, .b 4 6 1, .o (.mv 6 (.c (.ls (some true) 1 []))), .v 7 (.ci 0)]) (.seq (.seq (.r [.L 9 2 3, .c 10 f1 [.t 9, .t 4], .o (.un 11 .not (.t 10))]) (.cond (.t 11) (.seq (.r [.o (.bs 12 1 (.ls (some true) 1 []) 0 []), .m 6 12, .v 7 (.ci 1)]) .ret) .skip)) (.seq (.seq (.r [.m 13 2, .c 14 f2 [.t 13, .ci 1, .ci 14], .o (.un 15 .not (.t 14))]) (.cond (.t 15) (.seq (.r [.o (.bs 16 1 (.ls (some true) 1 []) 0 []), .m 6 16, .v 7 (.ci 2)]) .ret) .skip)) (.seq (.r [.o (.bs 17 1 (.ls (some true) 1 []) 0 []), .o (.zer 8 1 (.ls (some true) 1 [])), .s 1 8 17]) (.seq (.r [.o (.bs 18 1 (.sc (.int .i64 0)) 0 []), .m 19 2, .o (.wcl (some 20) f3 [.t 4, .t 18, .t 19, .t 8])]) (.seq (.r [.l 21 1 8, .m 6 21, .v 7 (.ci 0)]) .ret))))))
def K_spSitesOf (P : Program) (fno : Nat) : Prop := ∀ (gs : Int × Int) (p : Pg) (r : Int) (hf : fitP p), AF P fno [eG gs, eP p, eI r] (.tup [.own (.ls (some false) 1 ((sitesR gs p r).1.map fun l => .ls (some false) 1 (l.map eI))), .own (eI (sitesR gs p r).2)])
theorem a_spSitesOf {P : Program} (hm : P.follows .mixedOrders = true) {g f1 f2 f3 : Nat} (hr : resF P g = some (22, k_spSitesOf f1 f2 f3, [.t 6, .t 7])) (hc1 : K_l06Ok P f1) (hc2 : K_l00In P f2) (hc3 : K_l06Sites P f3) : K_spSitesOf P g := by
 intro gs p r hf
 have hV := hc1 gs p
 have hI := hc2 r 1 14
 unfold sitesR
 cases hv : okG gs && okP gs p with
 | false =>
  rw [hv] at hV
  simp only [bF, if_false]
  refine af_of_res hr hm rfl fun hb => ?_
  simp +contextual (maxSteps := 5000000) -implicitDefEqProofs only [k_spSitesOf, go_sem]
  refine callQ_self (by rfl) hV ?_
  simp +contextual (maxSteps := 5000000) -implicitDefEqProofs only [go_sem]
 | true =>
  rw [hv] at hV
  obtain ⟨z1, z2, z3⟩ := okP_sz (Bool.and_eq_true _ _ ▸ hv).2
  simp only [if_true]
  cases hi : isIn r 1 14 with
  | false =>
   rw [hi] at hI
   simp only [bF, if_false]
   refine af_of_res hr hm rfl fun hb => ?_
   simp +contextual (maxSteps := 5000000) -implicitDefEqProofs only [k_spSitesOf, go_sem]
   refine callQ_self (by rfl) hV ?_
   simp +contextual (maxSteps := 5000000) -implicitDefEqProofs only [go_sem]
   refine callQ_self (by rfl) hI ?_
   simp +contextual (maxSteps := 5000000) -implicitDefEqProofs only [go_sem]
  | true =>
   rw [hi] at hI
   simp only [if_true]
   have hS := hc3 gs r p z3 hf [] [] (by simp only [lZ]; omega) (by simp only [lZ]; omega)
   simp only [uO, eL, lN, List.nil_append] at hS
   refine af_of_res hr hm rfl fun hb => ?_
   simp +contextual (maxSteps := 5000000) -implicitDefEqProofs only [k_spSitesOf, go_sem]
   refine callQ_self (by rfl) hV ?_
   simp +contextual (maxSteps := 5000000) -implicitDefEqProofs only [go_sem]
   refine callQ_self (by rfl) hI ?_
   simp +contextual (maxSteps := 5000000) -implicitDefEqProofs only [go_sem]
   refine wcl_self [8] [] (by rfl) (by rfl) (by rfl) hS rfl (by simp [wOut, outU, noPtrs, D.noPtr]) ?_
   simp +contextual (maxSteps := 5000000) -implicitDefEqProofs only [go_sem]
   exact D.Le.refl _
end Go.Ax
