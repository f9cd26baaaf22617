/- Contracts of functions of the seat, proved over the engine. No condition. -/
import Derived.Test.YtcklakmblpkbnaaX23
import Derived.Test.YtcklakmblpkbnaaChecked
set_option linter.unusedSimpArgs false
set_option linter.unusedVariables false
set_option linter.unnecessarySimpa false
namespace Go.Ax
open Go.Proofs
set_option linter.unusedSimpArgs false
theorem mixed : Try.prog.follows .mixedOrders = true := by kernel_rfl
theorem res115 : resF Try.prog 115 = some (27, cSzC 44 3 true, [.t 4]) := by kernel_rfl
theorem res44 : resF Try.prog 44 = some (12, k_szExpr 115, [.t 4]) := by kernel_rfl
theorem res23 : resF Try.prog 23 = some (11, k_toSig, [.c 2 2 true]) := by kernel_rfl
theorem af23 : K_toSig Try.prog 23 := a_toSig mixed res23
theorem res119 : resF Try.prog 119 = some (23, cToC 46 3 40 true (.ag [(.sc (.int .i64 0)), (.sc (.int .i64 0)), (.ls (some true) 3 [])]), [.t 2]) := by kernel_rfl
theorem res46 : resF Try.prog 46 = some (15, k_toExpr 119, [.c 2 3 true]) := by kernel_rfl
theorem res47 : resF Try.prog 47 = some (22, cToS 8 (.sc (.int .i64 0)), [.t 2]) := by kernel_rfl
theorem res83 : resF Try.prog 83 = some (15, k_l00In, [.t 6]) := by kernel_rfl
theorem af83 : K_l00In Try.prog 83 := a_l00In mixed res83
theorem res162 : resF Try.prog 162 = some (11, k_l01Sig 83, [.t 2]) := by kernel_rfl
theorem af162 : K_l01Sig Try.prog 162 := a_l01Sig mixed res162 af83
theorem res173 : resF Try.prog 173 = some (30, k_l01Left 173, [.t 4]) := by kernel_rfl
theorem af173 : K_l01Left Try.prog 173 := a_l01Left mixed res173
theorem res201 : resF Try.prog 201 = some (10, k_l00Max, [.t 4]) := by kernel_rfl
theorem af201 : K_l00Max Try.prog 201 := a_l00Max mixed res201
theorem res174 : resF Try.prog 174 = some (25, k_l01Depth 174 201, [.t 2]) := by kernel_rfl
theorem af174 : K_l01Depth Try.prog 174 := a_l01Depth mixed res174 af201
theorem res202 : resF Try.prog 202 = some (15, k_l01Kids, [.t 2]) := by kernel_rfl
theorem af202 : K_l01Kids Try.prog 202 := a_l01Kids mixed res202
theorem res140 : resF Try.prog 140 = some (34, k_l01Condition 140 83, [.t 2]) := by kernel_rfl
theorem af140 : K_l01Condition Try.prog 140 := a_l01Condition mixed res140 af83
theorem res175 : resF Try.prog 175 = some (80, k_l01Tree 175 202 83 140, [.t 4]) := by kernel_rfl
theorem af175 : K_l01Tree Try.prog 175 := a_l01Tree mixed res175 af202 af83 af140
theorem res116 : resF Try.prog 116 = some (22, k_l01Ok 162 173 174 175, [.t 4]) := by kernel_rfl
theorem af116 : K_l01Ok Try.prog 116 := a_l01Ok mixed res116 af162 af173 af174 af175
theorem res118 : resF Try.prog 118 = some (36, k_l01Own 118, [.c 2 3 true]) := by kernel_rfl
theorem af118 : K_l01Own Try.prog 118 := a_l01Own mixed res118
theorem res117 : resF Try.prog 117 = some (48, k_l04At 83, [.t 4, .t 5, .t 6]) := by kernel_rfl
theorem af117 : K_l04At Try.prog 117 := a_l04At mixed res117 af83
theorem res45 : resF Try.prog 45 = some (26, k_spSubtermAt 116 118 117, [.c 6 3 true, .t 7]) := by kernel_rfl
theorem af45 : K_spSubtermAt Try.prog 45 := a_spSubtermAt mixed res45 af116 af118 af117
theorem res88 : resF Try.prog 88 = some (15, k_within, [.t 6]) := by kernel_rfl
theorem af88 : K_within Try.prog 88 := a_within mixed res88
theorem res129 : resF Try.prog 129 = some (11, k_validSig 88, [.t 2]) := by kernel_rfl
theorem af129 : K_validSig Try.prog 129 := a_validSig mixed res129 af88
theorem res218 : resF Try.prog 218 = some (15, k_kidsOf, [.t 2]) := by kernel_rfl
theorem af218 : K_kidsOf Try.prog 218 := a_kidsOf mixed res218
theorem res184 : resF Try.prog 184 = some (25, k_isCondition 184, [.t 2]) := by kernel_rfl
theorem af184 : K_isCondition Try.prog 184 := a_isCondition mixed res184
theorem res200 : resF Try.prog 200 = some (86, k_shaped 200 218 88 184, [.t 8, .t 9]) := by kernel_rfl
theorem af200 : K_shaped Try.prog 200 := a_shaped mixed res200 af218 af88 af184
theorem res167 : resF Try.prog 167 = some (14, k_isExpr 200, [.t 4]) := by kernel_rfl
theorem af167 : K_isExpr Try.prog 167 := a_isExpr mixed res167 af200
theorem res120 : resF Try.prog 120 = some (12, k_validExpr 129 167, [.t 4]) := by kernel_rfl
theorem af120 : K_validExpr Try.prog 120 := a_validExpr mixed res120 af129 af167
theorem res121 : resF Try.prog 121 = some (37, k_nodeAt 88, [.c 4 3 true, .t 5, .t 6]) := by kernel_rfl
theorem af121 : K_nodeAt Try.prog 121 := a_nodeAt mixed res121 af88
theorem res122 : resF Try.prog 122 = some (27, k_copyExpr 122, [.c 2 3 true]) := by kernel_rfl
theorem af122 : K_copyExpr Try.prog 122 := a_copyExpr mixed res122
theorem res48 : resF Try.prog 48 = some (28, k_imSubtermAt 120 121 122, [.c 6 3 true, .t 7]) := by kernel_rfl
theorem af48 : K_imSubtermAt Try.prog 48 := a_imSubtermAt mixed res48 af120 af121 af122
theorem res123 : resF Try.prog 123 = some (27, cEqC 49 3 true, [.t 4]) := by kernel_rfl
theorem res49 : resF Try.prog 49 = some (21, k_eqExpr 123, [.t 4]) := by kernel_rfl
theorem res50 : resF Try.prog 50 = some (26, cEqS, [.t 4]) := by kernel_rfl
theorem res125 : resF Try.prog 125 = some (40, k_heldExprS 125, [.t 4]) := by kernel_rfl
theorem af125 : K_heldExprS Try.prog 125 := a_heldExprS mixed res125
theorem res53 : resF Try.prog 53 = some (12, k_heldExpr 125, [.t 4]) := by kernel_rfl
theorem af53 : K_heldExpr Try.prog 53 := a_heldExpr mixed res53 af125
theorem res124 : resF Try.prog 124 = some (34, k_markExprS 124, [.t 4]) := by kernel_rfl
theorem af124 : K_markExprS Try.prog 124 := a_markExprS mixed res124
theorem res51 : resF Try.prog 51 = some (10, k_markExpr 124, [.t 4]) := by kernel_rfl
theorem af51 : K_markExpr Try.prog 51 := a_markExpr mixed res51 af124
theorem res52 : resF Try.prog 52 = some (19, cMkI, [.t 4]) := by kernel_rfl

def rc8 : RC :=
 (.seq
  (.reg false [⟨none, .box 3 2 (.t 0)⟩,
    ⟨none, .box 4 3 (.t 1)⟩,
    ⟨none, .mv 6 (.c (.sc (.bool false)))⟩])
  ((.seq
   ((.seq
    (.reg false [⟨none, .mv 19 (.t 2)⟩,
      ⟨none, .len 20 (.t 19)⟩,
      ⟨none, .bin 21 .gtr (.t 20) (.c (.sc (.int .i64 1048576)))⟩])
    (.cond (.t 21)
     ((.seq
      (.reg false [⟨none, .mv 6 (.c (.sc (.bool true)))⟩])
      (.ret)))
     (.skip))))
   ((.seq
    (.reg false [⟨none, .mv 7 (.c (.sc (.int .i64 1048576)))⟩])
    ((.seq
     (.reg false [⟨none, .ld 22 true 3 (.t 4)⟩,
       ⟨none, .mv 23 (.t 7)⟩,
       ⟨none, .call (some 24) 44 [(.t 22), (.t 23)]⟩,
       ⟨none, .mv 7 (.t 24)⟩])
     ((.seq
      ((.seq
       (.reg false [⟨none, .mv 25 (.t 7)⟩,
         ⟨none, .bin 26 .lss (.t 25) (.c (.sc (.int .i64 0)))⟩])
       (.cond (.t 26)
        ((.seq
         (.reg false [⟨none, .mv 6 (.c (.sc (.bool true)))⟩])
         (.ret)))
        (.skip))))
      ((.seq
       (.reg true [⟨none, .ld 28 true 2 (.t 3)⟩,
         ⟨none, .call (some 29) 23 [(.t 28)]⟩,
         ⟨none, .ld 30 true 3 (.t 4)⟩,
         ⟨none, .call (some 31) 46 [(.t 30)]⟩,
         ⟨none, .mv 32 (.t 2)⟩,
         ⟨none, .call (some 33) 47 [(.t 32)]⟩,
         ⟨none, .call (some 34) 45 [(.t 29), (.t 31), (.t 33)]⟩,
         ⟨none, .mv 27 (.t 34)⟩,
         ⟨none, .ext 35 (.t 27) 0⟩,
         ⟨none, .ext 36 (.t 27) 1⟩,
         ⟨none, .zer 8 3 (.ag [(.sc (.int .i64 0)), (.sc (.int .i64 0)), (.ls (some true) 3 [])])⟩,
         ⟨none, .st 3 (.t 8) (.t 35)⟩,
         ⟨none, .mv 9 (.t 36)⟩])
       ((.seq
        (.reg false [⟨none, .ld 37 true 3 (.t 4)⟩,
          ⟨none, .call (some 38) 46 [(.t 37)]⟩,
          ⟨none, .zer 10 3 (.ag [(.sc (.int .i64 0)), (.sc (.int .i64 0)), (.ls (some true) 3 [])])⟩,
          ⟨none, .st 3 (.t 10) (.t 38)⟩])
        ((.seq
         (.reg false [⟨none, .mv 39 (.t 2)⟩,
           ⟨none, .call (some 40) 47 [(.t 39)]⟩,
           ⟨none, .mv 11 (.t 40)⟩])
         ((.seq
          (.reg true [⟨none, .ld 42 true 2 (.t 3)⟩,
            ⟨none, .call (some 43) 23 [(.t 42)]⟩,
            ⟨none, .ld 44 true 3 (.t 10)⟩,
            ⟨none, .mv 45 (.t 11)⟩,
            ⟨none, .call (some 46) 48 [(.t 43), (.t 44), (.t 45)]⟩,
            ⟨none, .mv 41 (.t 46)⟩,
            ⟨none, .ext 47 (.t 41) 0⟩,
            ⟨none, .ext 48 (.t 41) 1⟩,
            ⟨none, .zer 12 3 (.ag [(.sc (.int .i64 0)), (.sc (.int .i64 0)), (.ls (some true) 3 [])])⟩,
            ⟨none, .st 3 (.t 12) (.t 47)⟩,
            ⟨none, .mv 13 (.t 48)⟩])
          ((.seq
           ((.seq
            (.reg false [⟨none, .ld 49 true 3 (.t 12)⟩,
              ⟨none, .ld 50 true 3 (.t 8)⟩,
              ⟨none, .call (some 51) 49 [(.t 49), (.t 50)]⟩,
              ⟨none, .un 52 .not (.t 51)⟩,
              ⟨none, .mv 53 (.t 52)⟩,
              ⟨some (53, false), .mv 54 (.t 13)⟩,
              ⟨some (53, false), .mv 55 (.t 9)⟩,
              ⟨some (53, false), .bin 56 .neq (.t 54) (.t 55)⟩,
              ⟨none, .pick 57 (.t 53) (.c (.sc (.bool true))) (.t 56)⟩])
            (.cond (.t 57)
             ((.seq
              (.reg false [⟨none, .mv 6 (.c (.sc (.bool false)))⟩])
              (.ret)))
             (.skip))))
           ((.seq
            ((.seq
             (.reg true [⟨none, .ld 58 true 3 (.t 10)⟩,
               ⟨none, .ld 59 true 3 (.t 4)⟩,
               ⟨none, .call (some 60) 46 [(.t 59)]⟩,
               ⟨none, .call (some 61) 49 [(.t 58), (.t 60)]⟩,
               ⟨none, .un 62 .not (.t 61)⟩])
             (.cond (.t 62)
              ((.seq
               (.reg false [⟨none, .mv 6 (.c (.sc (.bool false)))⟩])
               (.ret)))
              (.skip))))
            ((.seq
             ((.seq
              (.reg false [⟨none, .mv 63 (.t 11)⟩,
                ⟨none, .mv 64 (.t 2)⟩,
                ⟨none, .call (some 65) 47 [(.t 64)]⟩,
                ⟨none, .call (some 66) 50 [(.t 63), (.t 65)]⟩,
                ⟨none, .un 67 .not (.t 66)⟩])
              (.cond (.t 67)
               ((.seq
                (.reg false [⟨none, .mv 6 (.c (.sc (.bool false)))⟩])
                (.ret)))
               (.skip))))
             ((.seq
              (.reg false [⟨none, .mv 14 (.c (.sc (.int .i64 1)))⟩])
              ((.seq
               (.reg false [⟨none, .ld 68 true 3 (.t 10)⟩,
                 ⟨none, .mv 69 (.t 14)⟩,
                 ⟨none, .mcl 70 51 (.t 68) (.t 69)⟩,
                 ⟨none, .mv 14 (.t 70)⟩])
               ((.seq
                (.reg false [⟨none, .mv 71 (.t 11)⟩,
                  ⟨none, .mv 72 (.t 14)⟩,
                  ⟨none, .mcl 73 52 (.t 71) (.t 72)⟩,
                  ⟨none, .mv 14 (.t 73)⟩])
                ((.seq
                 ((.seq
                  (.reg false [⟨none, .mv 74 (.t 14)⟩,
                    ⟨none, .bin 75 .lss (.t 74) (.c (.sc (.int .i64 0)))⟩,
                    ⟨none, .mv 76 (.t 75)⟩,
                    ⟨some (76, false), .ld 77 true 3 (.t 12)⟩,
                    ⟨some (76, false), .ld 78 true 3 (.t 8)⟩,
                    ⟨some (76, false), .call (some 79) 49 [(.t 77), (.t 78)]⟩,
                    ⟨some (76, false), .un 80 .not (.t 79)⟩,
                    ⟨none, .pick 81 (.t 76) (.c (.sc (.bool true))) (.t 80)⟩,
                    ⟨none, .mv 82 (.t 81)⟩,
                    ⟨some (82, false), .mv 83 (.t 13)⟩,
                    ⟨some (82, false), .mv 84 (.t 9)⟩,
                    ⟨some (82, false), .bin 85 .neq (.t 83) (.t 84)⟩,
                    ⟨none, .pick 86 (.t 82) (.c (.sc (.bool true))) (.t 85)⟩])
                  (.cond (.t 86)
                   ((.seq
                    (.reg false [⟨none, .mv 6 (.c (.sc (.bool false)))⟩])
                    (.ret)))
                   (.skip))))
                 ((.seq
                  (.reg false [⟨none, .mv 15 (.c (.sc (.int .i64 1)))⟩])
                  ((.seq
                   (.reg false [⟨none, .ld 87 true 3 (.t 12)⟩,
                     ⟨none, .mv 88 (.t 15)⟩,
                     ⟨none, .mcl 89 51 (.t 87) (.t 88)⟩,
                     ⟨none, .mv 15 (.t 89)⟩])
                   ((.seq
                    (.reg false [⟨none, .mv 16 (.c (.sc (.int .i64 1)))⟩])
                    ((.seq
                     (.reg false [⟨none, .ld 90 true 3 (.t 12)⟩,
                       ⟨none, .mv 91 (.t 16)⟩,
                       ⟨none, .call (some 92) 53 [(.t 90), (.t 91)]⟩,
                       ⟨none, .mv 16 (.t 92)⟩])
                     ((.seq
                      ((.seq
                       (.reg false [⟨none, .mv 93 (.t 16)⟩,
                         ⟨none, .bin 94 .lss (.t 93) (.c (.sc (.int .i64 0)))⟩])
                       (.cond (.t 94)
                        ((.seq
                         (.reg false [⟨none, .mv 6 (.c (.sc (.bool false)))⟩])
                         (.ret)))
                        (.skip))))
                      ((.seq
                       ((.seq
                        (.reg false [⟨none, .mv 95 (.t 16)⟩,
                          ⟨none, .mv 96 (.t 15)⟩,
                          ⟨none, .bin 97 .neq (.t 95) (.t 96)⟩])
                        (.cond (.t 97)
                         ((.seq
                          (.reg false [⟨none, .mv 6 (.c (.sc (.bool false)))⟩])
                          (.ret)))
                         (.skip))))
                       ((.seq
                        (.reg true [⟨none, .ld 99 true 2 (.t 3)⟩,
                          ⟨none, .call (some 100) 23 [(.t 99)]⟩,
                          ⟨none, .ld 101 true 3 (.t 4)⟩,
                          ⟨none, .call (some 102) 46 [(.t 101)]⟩,
                          ⟨none, .mv 103 (.t 2)⟩,
                          ⟨none, .call (some 104) 47 [(.t 103)]⟩,
                          ⟨none, .call (some 105) 48 [(.t 100), (.t 102), (.t 104)]⟩,
                          ⟨none, .mv 98 (.t 105)⟩,
                          ⟨none, .ext 106 (.t 98) 0⟩,
                          ⟨none, .ext 107 (.t 98) 1⟩,
                          ⟨none, .zer 17 3 (.ag [(.sc (.int .i64 0)), (.sc (.int .i64 0)), (.ls (some true) 3 [])])⟩,
                          ⟨none, .st 3 (.t 17) (.t 106)⟩,
                          ⟨none, .mv 18 (.t 107)⟩])
                        ((.seq
                         ((.seq
                          (.reg false [⟨none, .ld 108 true 3 (.t 17)⟩,
                            ⟨none, .ld 109 true 3 (.t 8)⟩,
                            ⟨none, .call (some 110) 49 [(.t 108), (.t 109)]⟩,
                            ⟨none, .un 111 .not (.t 110)⟩,
                            ⟨none, .mv 112 (.t 111)⟩,
                            ⟨some (112, false), .mv 113 (.t 18)⟩,
                            ⟨some (112, false), .mv 114 (.t 9)⟩,
                            ⟨some (112, false), .bin 115 .neq (.t 113) (.t 114)⟩,
                            ⟨none, .pick 116 (.t 112) (.c (.sc (.bool true))) (.t 115)⟩])
                          (.cond (.t 116)
                           ((.seq
                            (.reg false [⟨none, .mv 6 (.c (.sc (.bool false)))⟩])
                            (.ret)))
                           (.skip))))
                         ((.seq
                          (.reg false [⟨none, .mv 16 (.c (.sc (.int .i64 1)))⟩])
                          ((.seq
                           (.reg false [⟨none, .ld 117 true 3 (.t 12)⟩,
                             ⟨none, .mv 118 (.t 16)⟩,
                             ⟨none, .call (some 119) 53 [(.t 117), (.t 118)]⟩,
                             ⟨none, .mv 16 (.t 119)⟩])
                           ((.seq
                            ((.seq
                             (.reg false [⟨none, .mv 120 (.t 16)⟩,
                               ⟨none, .bin 121 .lss (.t 120) (.c (.sc (.int .i64 0)))⟩])
                             (.cond (.t 121)
                              ((.seq
                               (.reg false [⟨none, .mv 6 (.c (.sc (.bool false)))⟩])
                               (.ret)))
                              (.skip))))
                            ((.seq
                             ((.seq
                              (.reg false [⟨none, .mv 122 (.t 16)⟩,
                                ⟨none, .mv 123 (.t 15)⟩,
                                ⟨none, .bin 124 .neq (.t 122) (.t 123)⟩])
                              (.cond (.t 124)
                               ((.seq
                                (.reg false [⟨none, .mv 6 (.c (.sc (.bool false)))⟩])
                                (.ret)))
                               (.skip))))
                             ((.seq
                              (.reg false [⟨none, .mv 6 (.c (.sc (.bool true)))⟩])
                              (.ret))))))))))))))))))))))))))))))))))))))))))))))))))))))))))
theorem res8 : resF Try.prog 8 = some (125, rc8, [.t 6]) := by kernel_rfl
noncomputable def famExpr : Fam Try.prog eE 44 46 49 := famE mixed res44 res115 res46 res119 res49 res123
theorem famExpr_t (x) : famExpr.t x = tE x := rfl
set_option maxRecDepth 20000
set_option maxHeartbeats 4000000
theorem cntL_one {α : Type} (xs : List α) : cntL (one (α := α)) xs = xs.length := by
  induction xs with
  | nil => rfl
  | cons x xs ih => simp only [cntL, ih, one, List.length_cons]; omega
theorem mkL_isE {rks : List Ex} {k : Int} : ((mkL mkE cntE rks k).map eE).isEmpty = (rks.map eE).isEmpty := by
  have h := mkL_length (mk := mkE) (cnt := cntE) (l := rks) (k := k)
  cases rks <;> cases hh : mkL mkE cntE _ k <;> simp_all
theorem fitE_tE (e : Ex) : fitE e → fitE (tE e) := by
  refine Ex.ind (p := fun e => fitE e → fitE (tE e)) (fun k n nn ks ih hf => ?_) e
  rw [fitE_mk] at hf
  rw [tE_mk, fitE_mk]
  refine ⟨by simpa using hf.1, fun x hx => ?_⟩
  obtain ⟨y, hy, rfl⟩ := List.mem_map.1 hx
  exact ih y hy (hf.2 y hy)
theorem law (g : Int × Int) (e : Ex) (p : Option Bool × List Int) : AF Try.prog 8 [eG g, eE e, eS 1 eI p] (.own (eB true)) := by
  obtain ⟨nn, xs⟩ := p
  rw [eE_eta e]
  refine af_of_res res8 mixed rfl fun hbd => ?_
  simp +contextual -implicitDefEqProofs only [rc8, eG, eS, eE_eta, famExpr_t, tE_k, tE_n, tE_nn, tE_ks, bne_self_eq_false, go_sem, eI, eB, ↓reduceIte, Nat.reduceEqDiff, Nat.reduceAdd, Nat.reduceLeDiff, Nat.reduceMul, Nat.reduceBEq, Nat.reduceBneDiff, Nat.reduceLT, Nat.reduceSub, decide_true, decide_false, and_self, true_and, and_true, false_and, and_false, not_true_eq_false, not_false_eq_true, false_implies, true_implies, implies_true, ge_iff_le, Bool.false_eq_true, List.cons_append, List.nil_append]
  refine fun hpl => ?_
  refine callQ_self (ds := [eE e, eI 1048576]) ?_ (famExpr.afS e 1048576 (by omega) (by omega)) ?_
  · simp only [eG, eS, eE_eta, famExpr_t, tE_k, tE_n, tE_nn, tE_ks, bne_self_eq_false]; exact rfl
  simp +contextual -implicitDefEqProofs only [eG, eS, eE_eta, famExpr_t, tE_k, tE_n, tE_nn, tE_ks, bne_self_eq_false, go_sem, eI, eB, ↓reduceIte, Nat.reduceEqDiff, Nat.reduceAdd, Nat.reduceLeDiff, Nat.reduceMul, Nat.reduceBEq, Nat.reduceBneDiff, Nat.reduceLT, Nat.reduceSub, decide_true, decide_false, and_self, true_and, and_true, false_and, and_false, not_true_eq_false, not_false_eq_true, false_implies, true_implies, implies_true, ge_iff_le, Bool.false_eq_true, List.cons_append, List.nil_append]
  have sb0 := famExpr.s_in e 1048576 (by omega) (by omega)
  refine fun hs0 => ?_
  have hf0 := famExpr.s_fit e 1048576 (by omega) (by omega) (by omega)
  refine callQ_self (ds := [eG g]) ?_ (af23 g) ?_
  · simp only [eG, eS, eE_eta, famExpr_t, tE_k, tE_n, tE_nn, tE_ks, bne_self_eq_false]; exact rfl
  simp +contextual -implicitDefEqProofs only [eG, eS, eE_eta, famExpr_t, tE_k, tE_n, tE_nn, tE_ks, bne_self_eq_false, go_sem, eI, eB, ↓reduceIte, Nat.reduceEqDiff, Nat.reduceAdd, Nat.reduceLeDiff, Nat.reduceMul, Nat.reduceBEq, Nat.reduceBneDiff, Nat.reduceLT, Nat.reduceSub, decide_true, decide_false, and_self, true_and, and_true, false_and, and_false, not_true_eq_false, not_false_eq_true, false_implies, true_implies, implies_true, ge_iff_le, Bool.false_eq_true, List.cons_append, List.nil_append]
  refine callQ_self (ds := [eE e]) ?_ (famExpr.afT e hf0) ?_
  · simp only [eG, eS, eE_eta, famExpr_t, tE_k, tE_n, tE_nn, tE_ks, bne_self_eq_false]; exact rfl
  simp +contextual -implicitDefEqProofs only [eG, eS, eE_eta, famExpr_t, tE_k, tE_n, tE_nn, tE_ks, bne_self_eq_false, go_sem, eI, eB, ↓reduceIte, Nat.reduceEqDiff, Nat.reduceAdd, Nat.reduceLeDiff, Nat.reduceMul, Nat.reduceBEq, Nat.reduceBneDiff, Nat.reduceLT, Nat.reduceSub, decide_true, decide_false, and_self, true_and, and_true, false_and, and_false, not_true_eq_false, not_false_eq_true, false_implies, true_implies, implies_true, ge_iff_le, Bool.false_eq_true, List.cons_append, List.nil_append]
  refine callQ_self (ds := [eS 1 eI (nn, xs)]) ?_ (af_toS mixed encI noI ⟨rfl, rfl, rfl⟩ res47 (nn, xs) ⟨by show 8 * xs.length ≤ _; omega, by show xs.length ≤ _; omega⟩) ?_
  · simp only [eG, eS, eE_eta, famExpr_t, tE_k, tE_n, tE_nn, tE_ks, bne_self_eq_false]; exact rfl
  simp +contextual -implicitDefEqProofs only [eG, eS, eE_eta, famExpr_t, tE_k, tE_n, tE_nn, tE_ks, bne_self_eq_false, go_sem, eI, eB, ↓reduceIte, Nat.reduceEqDiff, Nat.reduceAdd, Nat.reduceLeDiff, Nat.reduceMul, Nat.reduceBEq, Nat.reduceBneDiff, Nat.reduceLT, Nat.reduceSub, decide_true, decide_false, and_self, true_and, and_true, false_and, and_false, not_true_eq_false, not_false_eq_true, false_implies, true_implies, implies_true, ge_iff_le, Bool.false_eq_true, List.cons_append, List.nil_append]
  have hfT : fitE (tE e) := fitE_tE e hf0
  have hsp := af45 g (tE e) (some false) xs hfT
  have him := af48 g (tE e) (some false) xs hfT
  have hte := cntE_tE e
  rw [cntE_eq, cntE_eq] at hte
  have hce := szE_cnt e 1048576 (by omega) (by omega) (Int.not_lt.1 hs0)
  change (cntE0 e : Int) = 2 * (1048576 - famExpr.s e 1048576) at hce
  have hcn := cntE0_subAt g (tE e) xs
  generalize subAt g (tE e) xs = r at hsp him hcn
  obtain ⟨r, c⟩ := r
  obtain ⟨rk, rn, rnn, rks, rfl⟩ := Ex.ex r
  simp only [eE_mk] at hsp him hcn
  have hqI := af_eqS mixed res50 (some false, xs) (some false, xs)
  rw [eqL_refl (fun _ _ => by simp)] at hqI
  cases hnp : (rnn == some true && (rks.map eE).isEmpty)
  refine callQ_self (ds := [eG g, eE (tE e), eS 1 eI (some false, xs)]) ?_ (hsp) ?_
  · simp only [eG, eS, eE_eta, famExpr_t, tE_k, tE_n, tE_nn, tE_ks, bne_self_eq_false]; exact rfl
  simp +contextual -implicitDefEqProofs only [hnp, List.map_nil, List.isEmpty_nil, eG, eS, eE_eta, famExpr_t, tE_k, tE_n, tE_nn, tE_ks, bne_self_eq_false, go_sem, eI, eB, ↓reduceIte, Nat.reduceEqDiff, Nat.reduceAdd, Nat.reduceLeDiff, Nat.reduceMul, Nat.reduceBEq, Nat.reduceBneDiff, Nat.reduceLT, Nat.reduceSub, decide_true, decide_false, and_self, true_and, and_true, false_and, and_false, not_true_eq_false, not_false_eq_true, false_implies, true_implies, implies_true, ge_iff_le, Bool.false_eq_true, List.cons_append, List.nil_append]
  refine callQ_self (ds := [eE e]) ?_ (famExpr.afT e hf0) ?_
  · simp only [eG, eS, eE_eta, famExpr_t, tE_k, tE_n, tE_nn, tE_ks, bne_self_eq_false]; exact rfl
  simp +contextual -implicitDefEqProofs only [eG, eS, eE_eta, famExpr_t, tE_k, tE_n, tE_nn, tE_ks, bne_self_eq_false, go_sem, eI, eB, ↓reduceIte, Nat.reduceEqDiff, Nat.reduceAdd, Nat.reduceLeDiff, Nat.reduceMul, Nat.reduceBEq, Nat.reduceBneDiff, Nat.reduceLT, Nat.reduceSub, decide_true, decide_false, and_self, true_and, and_true, false_and, and_false, not_true_eq_false, not_false_eq_true, false_implies, true_implies, implies_true, ge_iff_le, Bool.false_eq_true, List.cons_append, List.nil_append]
  refine callQ_self (ds := [eS 1 eI (nn, xs)]) ?_ (af_toS mixed encI noI ⟨rfl, rfl, rfl⟩ res47 (nn, xs) ⟨by show 8 * xs.length ≤ _; omega, by show xs.length ≤ _; omega⟩) ?_
  · simp only [eG, eS, eE_eta, famExpr_t, tE_k, tE_n, tE_nn, tE_ks, bne_self_eq_false]; exact rfl
  simp +contextual -implicitDefEqProofs only [eG, eS, eE_eta, famExpr_t, tE_k, tE_n, tE_nn, tE_ks, bne_self_eq_false, go_sem, eI, eB, ↓reduceIte, Nat.reduceEqDiff, Nat.reduceAdd, Nat.reduceLeDiff, Nat.reduceMul, Nat.reduceBEq, Nat.reduceBneDiff, Nat.reduceLT, Nat.reduceSub, decide_true, decide_false, and_self, true_and, and_true, false_and, and_false, not_true_eq_false, not_false_eq_true, false_implies, true_implies, implies_true, ge_iff_le, Bool.false_eq_true, List.cons_append, List.nil_append]
  refine callQ_self (ds := [eG g]) ?_ (af23 g) ?_
  · simp only [eG, eS, eE_eta, famExpr_t, tE_k, tE_n, tE_nn, tE_ks, bne_self_eq_false]; exact rfl
  simp +contextual -implicitDefEqProofs only [eG, eS, eE_eta, famExpr_t, tE_k, tE_n, tE_nn, tE_ks, bne_self_eq_false, go_sem, eI, eB, ↓reduceIte, Nat.reduceEqDiff, Nat.reduceAdd, Nat.reduceLeDiff, Nat.reduceMul, Nat.reduceBEq, Nat.reduceBneDiff, Nat.reduceLT, Nat.reduceSub, decide_true, decide_false, and_self, true_and, and_true, false_and, and_false, not_true_eq_false, not_false_eq_true, false_implies, true_implies, implies_true, ge_iff_le, Bool.false_eq_true, List.cons_append, List.nil_append]
  refine callQ_self (ds := [eG g, eE (tE e), eS 1 eI (some false, xs)]) ?_ (him) ?_
  · simp only [eG, eS, eE_eta, famExpr_t, tE_k, tE_n, tE_nn, tE_ks, bne_self_eq_false]; exact rfl
  simp +contextual -implicitDefEqProofs only [hnp, List.map_nil, List.isEmpty_nil, eG, eS, eE_eta, famExpr_t, tE_k, tE_n, tE_nn, tE_ks, bne_self_eq_false, go_sem, eI, eB, ↓reduceIte, Nat.reduceEqDiff, Nat.reduceAdd, Nat.reduceLeDiff, Nat.reduceMul, Nat.reduceBEq, Nat.reduceBneDiff, Nat.reduceLT, Nat.reduceSub, decide_true, decide_false, and_self, true_and, and_true, false_and, and_false, not_true_eq_false, not_false_eq_true, false_implies, true_implies, implies_true, ge_iff_le, Bool.false_eq_true, List.cons_append, List.nil_append]
  refine callQ_self (ds := [eE (Ex.mk rk rn rnn rks), eE (Ex.mk rk rn rnn rks)]) ?_ (famExpr.afQ (Ex.mk rk rn rnn rks) (Ex.mk rk rn rnn rks)) ?_
  · simp only [eG, eS, eE_eta, famExpr_t, tE_k, tE_n, tE_nn, tE_ks, bne_self_eq_false]; exact rfl
  simp +contextual -implicitDefEqProofs only [famExpr.q_refl, Bool.not_true, hnp, List.map_nil, List.isEmpty_nil, eG, eS, eE_eta, famExpr_t, tE_k, tE_n, tE_nn, tE_ks, bne_self_eq_false, go_sem, eI, eB, ↓reduceIte, Nat.reduceEqDiff, Nat.reduceAdd, Nat.reduceLeDiff, Nat.reduceMul, Nat.reduceBEq, Nat.reduceBneDiff, Nat.reduceLT, Nat.reduceSub, decide_true, decide_false, and_self, true_and, and_true, false_and, and_false, not_true_eq_false, not_false_eq_true, false_implies, true_implies, implies_true, ge_iff_le, Bool.false_eq_true, List.cons_append, List.nil_append]
  refine callQ_self (ds := [eE e]) ?_ (famExpr.afT e hf0) ?_
  · simp only [eG, eS, eE_eta, famExpr_t, tE_k, tE_n, tE_nn, tE_ks, bne_self_eq_false]; exact rfl
  simp +contextual -implicitDefEqProofs only [eG, eS, eE_eta, famExpr_t, tE_k, tE_n, tE_nn, tE_ks, bne_self_eq_false, go_sem, eI, eB, ↓reduceIte, Nat.reduceEqDiff, Nat.reduceAdd, Nat.reduceLeDiff, Nat.reduceMul, Nat.reduceBEq, Nat.reduceBneDiff, Nat.reduceLT, Nat.reduceSub, decide_true, decide_false, and_self, true_and, and_true, false_and, and_false, not_true_eq_false, not_false_eq_true, false_implies, true_implies, implies_true, ge_iff_le, Bool.false_eq_true, List.cons_append, List.nil_append]
  refine callQ_self (ds := [eE (tE e), eE (tE e)]) ?_ (famExpr.afQ (tE e) (tE e)) ?_
  · simp only [eG, eS, eE_eta, famExpr_t, tE_k, tE_n, tE_nn, tE_ks, bne_self_eq_false]; exact rfl
  simp +contextual -implicitDefEqProofs only [famExpr.q_refl, Bool.not_true, eG, eS, eE_eta, famExpr_t, tE_k, tE_n, tE_nn, tE_ks, bne_self_eq_false, go_sem, eI, eB, ↓reduceIte, Nat.reduceEqDiff, Nat.reduceAdd, Nat.reduceLeDiff, Nat.reduceMul, Nat.reduceBEq, Nat.reduceBneDiff, Nat.reduceLT, Nat.reduceSub, decide_true, decide_false, and_self, true_and, and_true, false_and, and_false, not_true_eq_false, not_false_eq_true, false_implies, true_implies, implies_true, ge_iff_le, Bool.false_eq_true, List.cons_append, List.nil_append]
  refine callQ_self (ds := [eS 1 eI (nn, xs)]) ?_ (af_toS mixed encI noI ⟨rfl, rfl, rfl⟩ res47 (nn, xs) ⟨by show 8 * xs.length ≤ _; omega, by show xs.length ≤ _; omega⟩) ?_
  · simp only [eG, eS, eE_eta, famExpr_t, tE_k, tE_n, tE_nn, tE_ks, bne_self_eq_false]; exact rfl
  simp +contextual -implicitDefEqProofs only [eG, eS, eE_eta, famExpr_t, tE_k, tE_n, tE_nn, tE_ks, bne_self_eq_false, go_sem, eI, eB, ↓reduceIte, Nat.reduceEqDiff, Nat.reduceAdd, Nat.reduceLeDiff, Nat.reduceMul, Nat.reduceBEq, Nat.reduceBneDiff, Nat.reduceLT, Nat.reduceSub, decide_true, decide_false, and_self, true_and, and_true, false_and, and_false, not_true_eq_false, not_false_eq_true, false_implies, true_implies, implies_true, ge_iff_le, Bool.false_eq_true, List.cons_append, List.nil_append]
  refine callQ_self (ds := [eS 1 eI (some false, xs), eS 1 eI (some false, xs)]) ?_ (hqI) ?_
  · simp only [eG, eS, eE_eta, famExpr_t, tE_k, tE_n, tE_nn, tE_ks, bne_self_eq_false]; exact rfl
  simp +contextual -implicitDefEqProofs only [Bool.not_true, eG, eS, eE_eta, famExpr_t, tE_k, tE_n, tE_nn, tE_ks, bne_self_eq_false, go_sem, eI, eB, ↓reduceIte, Nat.reduceEqDiff, Nat.reduceAdd, Nat.reduceLeDiff, Nat.reduceMul, Nat.reduceBEq, Nat.reduceBneDiff, Nat.reduceLT, Nat.reduceSub, decide_true, decide_false, and_self, true_and, and_true, false_and, and_false, not_true_eq_false, not_false_eq_true, false_implies, true_implies, implies_true, ge_iff_le, Bool.false_eq_true, List.cons_append, List.nil_append]
  refine ⟨eE (mkE0 (tE e) 1), 1 + cntE0 (tE e), ?_, ?_, ?_⟩
  · have hk := af51 (tE e) 1 (by omega) (by unfold maxK; omega)
    rw [eE_eta (tE e)] at hk
    simp only [tE_k, tE_n, tE_nn, tE_ks] at hk
    exact hk
  · rw [eE_eta]; exact ⟨rfl, fun _ => rfl, rfl⟩
  simp +contextual -implicitDefEqProofs only [eG, eS, eE_eta, famExpr_t, tE_k, tE_n, tE_nn, tE_ks, bne_self_eq_false, go_sem, eI, eB, ↓reduceIte, Nat.reduceEqDiff, Nat.reduceAdd, Nat.reduceLeDiff, Nat.reduceMul, Nat.reduceBEq, Nat.reduceBneDiff, Nat.reduceLT, Nat.reduceSub, decide_true, decide_false, and_self, true_and, and_true, false_and, and_false, not_true_eq_false, not_false_eq_true, false_implies, true_implies, implies_true, ge_iff_le, Bool.false_eq_true, List.cons_append, List.nil_append]
  refine ⟨.ls (some false) 1 ((mkL mkI one xs (1 + cntE0 (tE e))).map eI), 1 + cntE0 (tE e) + cntL one xs, ?_, rfl, ?_⟩
  · exact af_mkI res52 (some false) xs _ (by omega) (by rw [cntL_one]; unfold maxK; omega)
  rw [cntL_one]
  have hk0 : ¬ (1 + (cntE0 (tE e) : Int) + (xs.length : Int) < 0) := by omega
  simp +contextual -implicitDefEqProofs only [hk0, hnp, List.map_nil, List.isEmpty_nil, eG, eS, eE_eta, famExpr_t, tE_k, tE_n, tE_nn, tE_ks, bne_self_eq_false, go_sem, eI, eB, ↓reduceIte, Nat.reduceEqDiff, Nat.reduceAdd, Nat.reduceLeDiff, Nat.reduceMul, Nat.reduceBEq, Nat.reduceBneDiff, Nat.reduceLT, Nat.reduceSub, decide_true, decide_false, and_self, true_and, and_true, false_and, and_false, not_true_eq_false, not_false_eq_true, false_implies, true_implies, implies_true, ge_iff_le, Bool.false_eq_true, List.cons_append, List.nil_append]
  refine callQ_self (ds := [eE (Ex.mk rk rn rnn rks), eE (Ex.mk rk rn rnn rks)]) ?_ (famExpr.afQ (Ex.mk rk rn rnn rks) (Ex.mk rk rn rnn rks)) ?_
  · simp only [eG, eS, eE_eta, famExpr_t, tE_k, tE_n, tE_nn, tE_ks, bne_self_eq_false]; exact rfl
  simp +contextual -implicitDefEqProofs only [famExpr.q_refl, Bool.not_true, hnp, List.map_nil, List.isEmpty_nil, eG, eS, eE_eta, famExpr_t, tE_k, tE_n, tE_nn, tE_ks, bne_self_eq_false, go_sem, eI, eB, ↓reduceIte, Nat.reduceEqDiff, Nat.reduceAdd, Nat.reduceLeDiff, Nat.reduceMul, Nat.reduceBEq, Nat.reduceBneDiff, Nat.reduceLT, Nat.reduceSub, decide_true, decide_false, and_self, true_and, and_true, false_and, and_false, not_true_eq_false, not_false_eq_true, false_implies, true_implies, implies_true, ge_iff_le, Bool.false_eq_true, List.cons_append, List.nil_append]
  have hnp2 : (rnn == some true && ((mkL mkE cntE rks 1).map eE).isEmpty) = false := by rw [mkL_isE]; exact hnp
  refine ⟨eE (mkE0 (Ex.mk rk rn rnn rks) 1), 1 + cntE0 (Ex.mk rk rn rnn rks), ?_, ?_, ?_⟩
  · have hk := af51 (Ex.mk rk rn rnn rks) 1 (by omega) (by unfold maxK; omega)
    rw [eE_mk] at hk
    exact hk
  · rw [mkE0_mk, eE_mk]; exact ⟨rfl, fun _ => rfl, rfl⟩
  simp +contextual -implicitDefEqProofs only [hnp2, mkE0_mk, Ex.k_mk, Ex.n_mk, Ex.nn_mk, Ex.ks_mk, hnp, List.map_nil, List.isEmpty_nil, eG, eS, eE_eta, famExpr_t, tE_k, tE_n, tE_nn, tE_ks, bne_self_eq_false, go_sem, eI, eB, ↓reduceIte, Nat.reduceEqDiff, Nat.reduceAdd, Nat.reduceLeDiff, Nat.reduceMul, Nat.reduceBEq, Nat.reduceBneDiff, Nat.reduceLT, Nat.reduceSub, decide_true, decide_false, and_self, true_and, and_true, false_and, and_false, not_true_eq_false, not_false_eq_true, false_implies, true_implies, implies_true, ge_iff_le, Bool.false_eq_true, List.cons_append, List.nil_append]
  refine callQ_self (ds := [eE (mkE0 (Ex.mk rk rn rnn rks) 1), eI 1]) ?_ (af53 (Ex.mk rk rn rnn rks) 1 (by omega) (by unfold maxK; omega)) ?_
  · simp only [eG, eS, eE_eta, famExpr_t, tE_k, tE_n, tE_nn, tE_ks, bne_self_eq_false]; exact rfl
  simp +contextual -implicitDefEqProofs only [hnp2, mkE0_mk, Ex.k_mk, Ex.n_mk, Ex.nn_mk, Ex.ks_mk, hnp, List.map_nil, List.isEmpty_nil, eG, eS, eE_eta, famExpr_t, tE_k, tE_n, tE_nn, tE_ks, bne_self_eq_false, go_sem, eI, eB, ↓reduceIte, Nat.reduceEqDiff, Nat.reduceAdd, Nat.reduceLeDiff, Nat.reduceMul, Nat.reduceBEq, Nat.reduceBneDiff, Nat.reduceLT, Nat.reduceSub, decide_true, decide_false, and_self, true_and, and_true, false_and, and_false, not_true_eq_false, not_false_eq_true, false_implies, true_implies, implies_true, ge_iff_le, Bool.false_eq_true, List.cons_append, List.nil_append]
  have hk1 : ¬ (1 + (cntE0 (Ex.mk rk rn rnn rks) : Int) < 0) := by omega
  simp +contextual -implicitDefEqProofs only [hk1, hnp2, mkE0_mk, Ex.k_mk, Ex.n_mk, Ex.nn_mk, Ex.ks_mk, hnp, List.map_nil, List.isEmpty_nil, eG, eS, eE_eta, famExpr_t, tE_k, tE_n, tE_nn, tE_ks, bne_self_eq_false, go_sem, eI, eB, ↓reduceIte, Nat.reduceEqDiff, Nat.reduceAdd, Nat.reduceLeDiff, Nat.reduceMul, Nat.reduceBEq, Nat.reduceBneDiff, Nat.reduceLT, Nat.reduceSub, decide_true, decide_false, and_self, true_and, and_true, false_and, and_false, not_true_eq_false, not_false_eq_true, false_implies, true_implies, implies_true, ge_iff_le, Bool.false_eq_true, List.cons_append, List.nil_append]
  refine callQ_self (ds := [eG g]) ?_ (af23 g) ?_
  · simp only [eG, eS, eE_eta, famExpr_t, tE_k, tE_n, tE_nn, tE_ks, bne_self_eq_false]; exact rfl
  simp +contextual -implicitDefEqProofs only [eG, eS, eE_eta, famExpr_t, tE_k, tE_n, tE_nn, tE_ks, bne_self_eq_false, go_sem, eI, eB, ↓reduceIte, Nat.reduceEqDiff, Nat.reduceAdd, Nat.reduceLeDiff, Nat.reduceMul, Nat.reduceBEq, Nat.reduceBneDiff, Nat.reduceLT, Nat.reduceSub, decide_true, decide_false, and_self, true_and, and_true, false_and, and_false, not_true_eq_false, not_false_eq_true, false_implies, true_implies, implies_true, ge_iff_le, Bool.false_eq_true, List.cons_append, List.nil_append]
  refine callQ_self (ds := [eE e]) ?_ (famExpr.afT e hf0) ?_
  · simp only [eG, eS, eE_eta, famExpr_t, tE_k, tE_n, tE_nn, tE_ks, bne_self_eq_false]; exact rfl
  simp +contextual -implicitDefEqProofs only [eG, eS, eE_eta, famExpr_t, tE_k, tE_n, tE_nn, tE_ks, bne_self_eq_false, go_sem, eI, eB, ↓reduceIte, Nat.reduceEqDiff, Nat.reduceAdd, Nat.reduceLeDiff, Nat.reduceMul, Nat.reduceBEq, Nat.reduceBneDiff, Nat.reduceLT, Nat.reduceSub, decide_true, decide_false, and_self, true_and, and_true, false_and, and_false, not_true_eq_false, not_false_eq_true, false_implies, true_implies, implies_true, ge_iff_le, Bool.false_eq_true, List.cons_append, List.nil_append]
  refine callQ_self (ds := [eS 1 eI (nn, xs)]) ?_ (af_toS mixed encI noI ⟨rfl, rfl, rfl⟩ res47 (nn, xs) ⟨by show 8 * xs.length ≤ _; omega, by show xs.length ≤ _; omega⟩) ?_
  · simp only [eG, eS, eE_eta, famExpr_t, tE_k, tE_n, tE_nn, tE_ks, bne_self_eq_false]; exact rfl
  simp +contextual -implicitDefEqProofs only [eG, eS, eE_eta, famExpr_t, tE_k, tE_n, tE_nn, tE_ks, bne_self_eq_false, go_sem, eI, eB, ↓reduceIte, Nat.reduceEqDiff, Nat.reduceAdd, Nat.reduceLeDiff, Nat.reduceMul, Nat.reduceBEq, Nat.reduceBneDiff, Nat.reduceLT, Nat.reduceSub, decide_true, decide_false, and_self, true_and, and_true, false_and, and_false, not_true_eq_false, not_false_eq_true, false_implies, true_implies, implies_true, ge_iff_le, Bool.false_eq_true, List.cons_append, List.nil_append]
  refine callQ_self (ds := [eG g, eE (tE e), eS 1 eI (some false, xs)]) ?_ (him) ?_
  · simp only [eG, eS, eE_eta, famExpr_t, tE_k, tE_n, tE_nn, tE_ks, bne_self_eq_false]; exact rfl
  simp +contextual -implicitDefEqProofs only [hnp2, mkE0_mk, Ex.k_mk, Ex.n_mk, Ex.nn_mk, Ex.ks_mk, hnp, List.map_nil, List.isEmpty_nil, eG, eS, eE_eta, famExpr_t, tE_k, tE_n, tE_nn, tE_ks, bne_self_eq_false, go_sem, eI, eB, ↓reduceIte, Nat.reduceEqDiff, Nat.reduceAdd, Nat.reduceLeDiff, Nat.reduceMul, Nat.reduceBEq, Nat.reduceBneDiff, Nat.reduceLT, Nat.reduceSub, decide_true, decide_false, and_self, true_and, and_true, false_and, and_false, not_true_eq_false, not_false_eq_true, false_implies, true_implies, implies_true, ge_iff_le, Bool.false_eq_true, List.cons_append, List.nil_append]
  refine callQ_self (ds := [eE (Ex.mk rk rn rnn rks), eE (Ex.mk rk rn rnn rks)]) ?_ (famExpr.afQ (Ex.mk rk rn rnn rks) (Ex.mk rk rn rnn rks)) ?_
  · simp only [eG, eS, eE_eta, famExpr_t, tE_k, tE_n, tE_nn, tE_ks, bne_self_eq_false]; exact rfl
  simp +contextual -implicitDefEqProofs only [famExpr.q_refl, Bool.not_true, hnp2, mkE0_mk, Ex.k_mk, Ex.n_mk, Ex.nn_mk, Ex.ks_mk, hnp, List.map_nil, List.isEmpty_nil, eG, eS, eE_eta, famExpr_t, tE_k, tE_n, tE_nn, tE_ks, bne_self_eq_false, go_sem, eI, eB, ↓reduceIte, Nat.reduceEqDiff, Nat.reduceAdd, Nat.reduceLeDiff, Nat.reduceMul, Nat.reduceBEq, Nat.reduceBneDiff, Nat.reduceLT, Nat.reduceSub, decide_true, decide_false, and_self, true_and, and_true, false_and, and_false, not_true_eq_false, not_false_eq_true, false_implies, true_implies, implies_true, ge_iff_le, Bool.false_eq_true, List.cons_append, List.nil_append]
  refine callQ_self (ds := [eE (mkE0 (Ex.mk rk rn rnn rks) 1), eI 1]) ?_ (af53 (Ex.mk rk rn rnn rks) 1 (by omega) (by unfold maxK; omega)) ?_
  · simp only [eG, eS, eE_eta, famExpr_t, tE_k, tE_n, tE_nn, tE_ks, bne_self_eq_false]; exact rfl
  simp +contextual -implicitDefEqProofs only [hk1, hnp2, mkE0_mk, Ex.k_mk, Ex.n_mk, Ex.nn_mk, Ex.ks_mk, hnp, List.map_nil, List.isEmpty_nil, eG, eS, eE_eta, famExpr_t, tE_k, tE_n, tE_nn, tE_ks, bne_self_eq_false, go_sem, eI, eB, ↓reduceIte, Nat.reduceEqDiff, Nat.reduceAdd, Nat.reduceLeDiff, Nat.reduceMul, Nat.reduceBEq, Nat.reduceBneDiff, Nat.reduceLT, Nat.reduceSub, decide_true, decide_false, and_self, true_and, and_true, false_and, and_false, not_true_eq_false, not_false_eq_true, false_implies, true_implies, implies_true, ge_iff_le, Bool.false_eq_true, List.cons_append, List.nil_append]
  simp only [Bool.and_eq_true, beq_iff_eq, List.isEmpty_iff, List.map_eq_nil_iff] at hnp
  obtain ⟨rfl, rfl⟩ := hnp
  have hnp : True := trivial
  refine callQ_self (ds := [eG g, eE (tE e), eS 1 eI (some false, xs)]) ?_ (hsp) ?_
  · simp only [eG, eS, eE_eta, famExpr_t, tE_k, tE_n, tE_nn, tE_ks, bne_self_eq_false]; exact rfl
  simp +contextual -implicitDefEqProofs only [hnp, List.map_nil, List.isEmpty_nil, eG, eS, eE_eta, famExpr_t, tE_k, tE_n, tE_nn, tE_ks, bne_self_eq_false, go_sem, eI, eB, ↓reduceIte, Nat.reduceEqDiff, Nat.reduceAdd, Nat.reduceLeDiff, Nat.reduceMul, Nat.reduceBEq, Nat.reduceBneDiff, Nat.reduceLT, Nat.reduceSub, decide_true, decide_false, and_self, true_and, and_true, false_and, and_false, not_true_eq_false, not_false_eq_true, false_implies, true_implies, implies_true, ge_iff_le, Bool.false_eq_true, List.cons_append, List.nil_append]
  refine callQ_self (ds := [eE e]) ?_ (famExpr.afT e hf0) ?_
  · simp only [eG, eS, eE_eta, famExpr_t, tE_k, tE_n, tE_nn, tE_ks, bne_self_eq_false]; exact rfl
  simp +contextual -implicitDefEqProofs only [eG, eS, eE_eta, famExpr_t, tE_k, tE_n, tE_nn, tE_ks, bne_self_eq_false, go_sem, eI, eB, ↓reduceIte, Nat.reduceEqDiff, Nat.reduceAdd, Nat.reduceLeDiff, Nat.reduceMul, Nat.reduceBEq, Nat.reduceBneDiff, Nat.reduceLT, Nat.reduceSub, decide_true, decide_false, and_self, true_and, and_true, false_and, and_false, not_true_eq_false, not_false_eq_true, false_implies, true_implies, implies_true, ge_iff_le, Bool.false_eq_true, List.cons_append, List.nil_append]
  refine callQ_self (ds := [eS 1 eI (nn, xs)]) ?_ (af_toS mixed encI noI ⟨rfl, rfl, rfl⟩ res47 (nn, xs) ⟨by show 8 * xs.length ≤ _; omega, by show xs.length ≤ _; omega⟩) ?_
  · simp only [eG, eS, eE_eta, famExpr_t, tE_k, tE_n, tE_nn, tE_ks, bne_self_eq_false]; exact rfl
  simp +contextual -implicitDefEqProofs only [eG, eS, eE_eta, famExpr_t, tE_k, tE_n, tE_nn, tE_ks, bne_self_eq_false, go_sem, eI, eB, ↓reduceIte, Nat.reduceEqDiff, Nat.reduceAdd, Nat.reduceLeDiff, Nat.reduceMul, Nat.reduceBEq, Nat.reduceBneDiff, Nat.reduceLT, Nat.reduceSub, decide_true, decide_false, and_self, true_and, and_true, false_and, and_false, not_true_eq_false, not_false_eq_true, false_implies, true_implies, implies_true, ge_iff_le, Bool.false_eq_true, List.cons_append, List.nil_append]
  refine callQ_self (ds := [eG g]) ?_ (af23 g) ?_
  · simp only [eG, eS, eE_eta, famExpr_t, tE_k, tE_n, tE_nn, tE_ks, bne_self_eq_false]; exact rfl
  simp +contextual -implicitDefEqProofs only [eG, eS, eE_eta, famExpr_t, tE_k, tE_n, tE_nn, tE_ks, bne_self_eq_false, go_sem, eI, eB, ↓reduceIte, Nat.reduceEqDiff, Nat.reduceAdd, Nat.reduceLeDiff, Nat.reduceMul, Nat.reduceBEq, Nat.reduceBneDiff, Nat.reduceLT, Nat.reduceSub, decide_true, decide_false, and_self, true_and, and_true, false_and, and_false, not_true_eq_false, not_false_eq_true, false_implies, true_implies, implies_true, ge_iff_le, Bool.false_eq_true, List.cons_append, List.nil_append]
  refine callQ_self (ds := [eG g, eE (tE e), eS 1 eI (some false, xs)]) ?_ (him) ?_
  · simp only [eG, eS, eE_eta, famExpr_t, tE_k, tE_n, tE_nn, tE_ks, bne_self_eq_false]; exact rfl
  simp +contextual -implicitDefEqProofs only [hnp, List.map_nil, List.isEmpty_nil, eG, eS, eE_eta, famExpr_t, tE_k, tE_n, tE_nn, tE_ks, bne_self_eq_false, go_sem, eI, eB, ↓reduceIte, Nat.reduceEqDiff, Nat.reduceAdd, Nat.reduceLeDiff, Nat.reduceMul, Nat.reduceBEq, Nat.reduceBneDiff, Nat.reduceLT, Nat.reduceSub, decide_true, decide_false, and_self, true_and, and_true, false_and, and_false, not_true_eq_false, not_false_eq_true, false_implies, true_implies, implies_true, ge_iff_le, Bool.false_eq_true, List.cons_append, List.nil_append]
  refine callQ_self (ds := [eE (Ex.mk rk rn (some true) []), eE (Ex.mk rk rn (some true) [])]) ?_ (famExpr.afQ (Ex.mk rk rn (some true) []) (Ex.mk rk rn (some true) [])) ?_
  · simp only [eG, eS, eE_eta, famExpr_t, tE_k, tE_n, tE_nn, tE_ks, bne_self_eq_false]; exact rfl
  simp +contextual -implicitDefEqProofs only [famExpr.q_refl, Bool.not_true, hnp, List.map_nil, List.isEmpty_nil, eG, eS, eE_eta, famExpr_t, tE_k, tE_n, tE_nn, tE_ks, bne_self_eq_false, go_sem, eI, eB, ↓reduceIte, Nat.reduceEqDiff, Nat.reduceAdd, Nat.reduceLeDiff, Nat.reduceMul, Nat.reduceBEq, Nat.reduceBneDiff, Nat.reduceLT, Nat.reduceSub, decide_true, decide_false, and_self, true_and, and_true, false_and, and_false, not_true_eq_false, not_false_eq_true, false_implies, true_implies, implies_true, ge_iff_le, Bool.false_eq_true, List.cons_append, List.nil_append]
  refine callQ_self (ds := [eE e]) ?_ (famExpr.afT e hf0) ?_
  · simp only [eG, eS, eE_eta, famExpr_t, tE_k, tE_n, tE_nn, tE_ks, bne_self_eq_false]; exact rfl
  simp +contextual -implicitDefEqProofs only [eG, eS, eE_eta, famExpr_t, tE_k, tE_n, tE_nn, tE_ks, bne_self_eq_false, go_sem, eI, eB, ↓reduceIte, Nat.reduceEqDiff, Nat.reduceAdd, Nat.reduceLeDiff, Nat.reduceMul, Nat.reduceBEq, Nat.reduceBneDiff, Nat.reduceLT, Nat.reduceSub, decide_true, decide_false, and_self, true_and, and_true, false_and, and_false, not_true_eq_false, not_false_eq_true, false_implies, true_implies, implies_true, ge_iff_le, Bool.false_eq_true, List.cons_append, List.nil_append]
  refine callQ_self (ds := [eE (tE e), eE (tE e)]) ?_ (famExpr.afQ (tE e) (tE e)) ?_
  · simp only [eG, eS, eE_eta, famExpr_t, tE_k, tE_n, tE_nn, tE_ks, bne_self_eq_false]; exact rfl
  simp +contextual -implicitDefEqProofs only [famExpr.q_refl, Bool.not_true, eG, eS, eE_eta, famExpr_t, tE_k, tE_n, tE_nn, tE_ks, bne_self_eq_false, go_sem, eI, eB, ↓reduceIte, Nat.reduceEqDiff, Nat.reduceAdd, Nat.reduceLeDiff, Nat.reduceMul, Nat.reduceBEq, Nat.reduceBneDiff, Nat.reduceLT, Nat.reduceSub, decide_true, decide_false, and_self, true_and, and_true, false_and, and_false, not_true_eq_false, not_false_eq_true, false_implies, true_implies, implies_true, ge_iff_le, Bool.false_eq_true, List.cons_append, List.nil_append]
  refine callQ_self (ds := [eS 1 eI (nn, xs)]) ?_ (af_toS mixed encI noI ⟨rfl, rfl, rfl⟩ res47 (nn, xs) ⟨by show 8 * xs.length ≤ _; omega, by show xs.length ≤ _; omega⟩) ?_
  · simp only [eG, eS, eE_eta, famExpr_t, tE_k, tE_n, tE_nn, tE_ks, bne_self_eq_false]; exact rfl
  simp +contextual -implicitDefEqProofs only [eG, eS, eE_eta, famExpr_t, tE_k, tE_n, tE_nn, tE_ks, bne_self_eq_false, go_sem, eI, eB, ↓reduceIte, Nat.reduceEqDiff, Nat.reduceAdd, Nat.reduceLeDiff, Nat.reduceMul, Nat.reduceBEq, Nat.reduceBneDiff, Nat.reduceLT, Nat.reduceSub, decide_true, decide_false, and_self, true_and, and_true, false_and, and_false, not_true_eq_false, not_false_eq_true, false_implies, true_implies, implies_true, ge_iff_le, Bool.false_eq_true, List.cons_append, List.nil_append]
  refine callQ_self (ds := [eS 1 eI (some false, xs), eS 1 eI (some false, xs)]) ?_ (hqI) ?_
  · simp only [eG, eS, eE_eta, famExpr_t, tE_k, tE_n, tE_nn, tE_ks, bne_self_eq_false]; exact rfl
  simp +contextual -implicitDefEqProofs only [Bool.not_true, eG, eS, eE_eta, famExpr_t, tE_k, tE_n, tE_nn, tE_ks, bne_self_eq_false, go_sem, eI, eB, ↓reduceIte, Nat.reduceEqDiff, Nat.reduceAdd, Nat.reduceLeDiff, Nat.reduceMul, Nat.reduceBEq, Nat.reduceBneDiff, Nat.reduceLT, Nat.reduceSub, decide_true, decide_false, and_self, true_and, and_true, false_and, and_false, not_true_eq_false, not_false_eq_true, false_implies, true_implies, implies_true, ge_iff_le, Bool.false_eq_true, List.cons_append, List.nil_append]
  refine ⟨eE (mkE0 (tE e) 1), 1 + cntE0 (tE e), ?_, ?_, ?_⟩
  · have hk := af51 (tE e) 1 (by omega) (by unfold maxK; omega)
    rw [eE_eta (tE e)] at hk
    simp only [tE_k, tE_n, tE_nn, tE_ks] at hk
    exact hk
  · rw [eE_eta]; exact ⟨rfl, fun _ => rfl, rfl⟩
  simp +contextual -implicitDefEqProofs only [eG, eS, eE_eta, famExpr_t, tE_k, tE_n, tE_nn, tE_ks, bne_self_eq_false, go_sem, eI, eB, ↓reduceIte, Nat.reduceEqDiff, Nat.reduceAdd, Nat.reduceLeDiff, Nat.reduceMul, Nat.reduceBEq, Nat.reduceBneDiff, Nat.reduceLT, Nat.reduceSub, decide_true, decide_false, and_self, true_and, and_true, false_and, and_false, not_true_eq_false, not_false_eq_true, false_implies, true_implies, implies_true, ge_iff_le, Bool.false_eq_true, List.cons_append, List.nil_append]
  refine ⟨.ls (some false) 1 ((mkL mkI one xs (1 + cntE0 (tE e))).map eI), 1 + cntE0 (tE e) + cntL one xs, ?_, rfl, ?_⟩
  · exact af_mkI res52 (some false) xs _ (by omega) (by rw [cntL_one]; unfold maxK; omega)
  rw [cntL_one]
  have hk0 : ¬ (1 + (cntE0 (tE e) : Int) + (xs.length : Int) < 0) := by omega
  simp +contextual -implicitDefEqProofs only [hk0, hnp, List.map_nil, List.isEmpty_nil, eG, eS, eE_eta, famExpr_t, tE_k, tE_n, tE_nn, tE_ks, bne_self_eq_false, go_sem, eI, eB, ↓reduceIte, Nat.reduceEqDiff, Nat.reduceAdd, Nat.reduceLeDiff, Nat.reduceMul, Nat.reduceBEq, Nat.reduceBneDiff, Nat.reduceLT, Nat.reduceSub, decide_true, decide_false, and_self, true_and, and_true, false_and, and_false, not_true_eq_false, not_false_eq_true, false_implies, true_implies, implies_true, ge_iff_le, Bool.false_eq_true, List.cons_append, List.nil_append]
  refine callQ_self (ds := [eE (Ex.mk rk rn (some true) []), eE (Ex.mk rk rn (some true) [])]) ?_ (famExpr.afQ (Ex.mk rk rn (some true) []) (Ex.mk rk rn (some true) [])) ?_
  · simp only [eG, eS, eE_eta, famExpr_t, tE_k, tE_n, tE_nn, tE_ks, bne_self_eq_false]; exact rfl
  simp +contextual -implicitDefEqProofs only [famExpr.q_refl, Bool.not_true, hnp, List.map_nil, List.isEmpty_nil, eG, eS, eE_eta, famExpr_t, tE_k, tE_n, tE_nn, tE_ks, bne_self_eq_false, go_sem, eI, eB, ↓reduceIte, Nat.reduceEqDiff, Nat.reduceAdd, Nat.reduceLeDiff, Nat.reduceMul, Nat.reduceBEq, Nat.reduceBneDiff, Nat.reduceLT, Nat.reduceSub, decide_true, decide_false, and_self, true_and, and_true, false_and, and_false, not_true_eq_false, not_false_eq_true, false_implies, true_implies, implies_true, ge_iff_le, Bool.false_eq_true, List.cons_append, List.nil_append]
  refine ⟨rfl, eE (mkE0 (Ex.mk rk rn (some true) []) 1), 1 + cntE0 (Ex.mk rk rn (some true) []), ?_, ?_⟩
  · exact af51 (Ex.mk rk rn (some true) []) 1 (by omega) (by unfold maxK; omega)
  simp +contextual -implicitDefEqProofs only [mkL, mkE0_mk, Ex.k_mk, Ex.n_mk, Ex.nn_mk, Ex.ks_mk, hnp, List.map_nil, List.isEmpty_nil, eG, eS, eE_eta, famExpr_t, tE_k, tE_n, tE_nn, tE_ks, bne_self_eq_false, go_sem, eI, eB, ↓reduceIte, Nat.reduceEqDiff, Nat.reduceAdd, Nat.reduceLeDiff, Nat.reduceMul, Nat.reduceBEq, Nat.reduceBneDiff, Nat.reduceLT, Nat.reduceSub, decide_true, decide_false, and_self, true_and, and_true, false_and, and_false, not_true_eq_false, not_false_eq_true, false_implies, true_implies, implies_true, ge_iff_le, Bool.false_eq_true, List.cons_append, List.nil_append]
  refine callQ_self (ds := [eE (mkE0 (Ex.mk rk rn (some true) []) 1), eI 1]) ?_ (af53 (Ex.mk rk rn (some true) []) 1 (by omega) (by unfold maxK; omega)) ?_
  · simp only [eG, eS, eE_eta, famExpr_t, tE_k, tE_n, tE_nn, tE_ks, bne_self_eq_false]; exact rfl
  simp +contextual -implicitDefEqProofs only [mkL, mkE0_mk, Ex.k_mk, Ex.n_mk, Ex.nn_mk, Ex.ks_mk, hnp, List.map_nil, List.isEmpty_nil, eG, eS, eE_eta, famExpr_t, tE_k, tE_n, tE_nn, tE_ks, bne_self_eq_false, go_sem, eI, eB, ↓reduceIte, Nat.reduceEqDiff, Nat.reduceAdd, Nat.reduceLeDiff, Nat.reduceMul, Nat.reduceBEq, Nat.reduceBneDiff, Nat.reduceLT, Nat.reduceSub, decide_true, decide_false, and_self, true_and, and_true, false_and, and_false, not_true_eq_false, not_false_eq_true, false_implies, true_implies, implies_true, ge_iff_le, Bool.false_eq_true, List.cons_append, List.nil_append]
  have hk1 : ¬ (1 + (cntE0 (Ex.mk rk rn (some true) []) : Int) < 0) := by omega
  simp +contextual -implicitDefEqProofs only [hk1, mkL, mkE0_mk, Ex.k_mk, Ex.n_mk, Ex.nn_mk, Ex.ks_mk, hnp, List.map_nil, List.isEmpty_nil, eG, eS, eE_eta, famExpr_t, tE_k, tE_n, tE_nn, tE_ks, bne_self_eq_false, go_sem, eI, eB, ↓reduceIte, Nat.reduceEqDiff, Nat.reduceAdd, Nat.reduceLeDiff, Nat.reduceMul, Nat.reduceBEq, Nat.reduceBneDiff, Nat.reduceLT, Nat.reduceSub, decide_true, decide_false, and_self, true_and, and_true, false_and, and_false, not_true_eq_false, not_false_eq_true, false_implies, true_implies, implies_true, ge_iff_le, Bool.false_eq_true, List.cons_append, List.nil_append]
  refine callQ_self (ds := [eG g]) ?_ (af23 g) ?_
  · simp only [eG, eS, eE_eta, famExpr_t, tE_k, tE_n, tE_nn, tE_ks, bne_self_eq_false]; exact rfl
  simp +contextual -implicitDefEqProofs only [eG, eS, eE_eta, famExpr_t, tE_k, tE_n, tE_nn, tE_ks, bne_self_eq_false, go_sem, eI, eB, ↓reduceIte, Nat.reduceEqDiff, Nat.reduceAdd, Nat.reduceLeDiff, Nat.reduceMul, Nat.reduceBEq, Nat.reduceBneDiff, Nat.reduceLT, Nat.reduceSub, decide_true, decide_false, and_self, true_and, and_true, false_and, and_false, not_true_eq_false, not_false_eq_true, false_implies, true_implies, implies_true, ge_iff_le, Bool.false_eq_true, List.cons_append, List.nil_append]
  refine callQ_self (ds := [eE e]) ?_ (famExpr.afT e hf0) ?_
  · simp only [eG, eS, eE_eta, famExpr_t, tE_k, tE_n, tE_nn, tE_ks, bne_self_eq_false]; exact rfl
  simp +contextual -implicitDefEqProofs only [eG, eS, eE_eta, famExpr_t, tE_k, tE_n, tE_nn, tE_ks, bne_self_eq_false, go_sem, eI, eB, ↓reduceIte, Nat.reduceEqDiff, Nat.reduceAdd, Nat.reduceLeDiff, Nat.reduceMul, Nat.reduceBEq, Nat.reduceBneDiff, Nat.reduceLT, Nat.reduceSub, decide_true, decide_false, and_self, true_and, and_true, false_and, and_false, not_true_eq_false, not_false_eq_true, false_implies, true_implies, implies_true, ge_iff_le, Bool.false_eq_true, List.cons_append, List.nil_append]
  refine callQ_self (ds := [eS 1 eI (nn, xs)]) ?_ (af_toS mixed encI noI ⟨rfl, rfl, rfl⟩ res47 (nn, xs) ⟨by show 8 * xs.length ≤ _; omega, by show xs.length ≤ _; omega⟩) ?_
  · simp only [eG, eS, eE_eta, famExpr_t, tE_k, tE_n, tE_nn, tE_ks, bne_self_eq_false]; exact rfl
  simp +contextual -implicitDefEqProofs only [eG, eS, eE_eta, famExpr_t, tE_k, tE_n, tE_nn, tE_ks, bne_self_eq_false, go_sem, eI, eB, ↓reduceIte, Nat.reduceEqDiff, Nat.reduceAdd, Nat.reduceLeDiff, Nat.reduceMul, Nat.reduceBEq, Nat.reduceBneDiff, Nat.reduceLT, Nat.reduceSub, decide_true, decide_false, and_self, true_and, and_true, false_and, and_false, not_true_eq_false, not_false_eq_true, false_implies, true_implies, implies_true, ge_iff_le, Bool.false_eq_true, List.cons_append, List.nil_append]
  refine callQ_self (ds := [eG g, eE (tE e), eS 1 eI (some false, xs)]) ?_ (him) ?_
  · simp only [eG, eS, eE_eta, famExpr_t, tE_k, tE_n, tE_nn, tE_ks, bne_self_eq_false]; exact rfl
  simp +contextual -implicitDefEqProofs only [mkL, mkE0_mk, Ex.k_mk, Ex.n_mk, Ex.nn_mk, Ex.ks_mk, hnp, List.map_nil, List.isEmpty_nil, eG, eS, eE_eta, famExpr_t, tE_k, tE_n, tE_nn, tE_ks, bne_self_eq_false, go_sem, eI, eB, ↓reduceIte, Nat.reduceEqDiff, Nat.reduceAdd, Nat.reduceLeDiff, Nat.reduceMul, Nat.reduceBEq, Nat.reduceBneDiff, Nat.reduceLT, Nat.reduceSub, decide_true, decide_false, and_self, true_and, and_true, false_and, and_false, not_true_eq_false, not_false_eq_true, false_implies, true_implies, implies_true, ge_iff_le, Bool.false_eq_true, List.cons_append, List.nil_append]
  refine callQ_self (ds := [eE (Ex.mk rk rn (some true) []), eE (Ex.mk rk rn (some true) [])]) ?_ (famExpr.afQ (Ex.mk rk rn (some true) []) (Ex.mk rk rn (some true) [])) ?_
  · simp only [eG, eS, eE_eta, famExpr_t, tE_k, tE_n, tE_nn, tE_ks, bne_self_eq_false]; exact rfl
  simp +contextual -implicitDefEqProofs only [famExpr.q_refl, Bool.not_true, mkL, mkE0_mk, Ex.k_mk, Ex.n_mk, Ex.nn_mk, Ex.ks_mk, hnp, List.map_nil, List.isEmpty_nil, eG, eS, eE_eta, famExpr_t, tE_k, tE_n, tE_nn, tE_ks, bne_self_eq_false, go_sem, eI, eB, ↓reduceIte, Nat.reduceEqDiff, Nat.reduceAdd, Nat.reduceLeDiff, Nat.reduceMul, Nat.reduceBEq, Nat.reduceBneDiff, Nat.reduceLT, Nat.reduceSub, decide_true, decide_false, and_self, true_and, and_true, false_and, and_false, not_true_eq_false, not_false_eq_true, false_implies, true_implies, implies_true, ge_iff_le, Bool.false_eq_true, List.cons_append, List.nil_append]
  refine callQ_self (ds := [eE (mkE0 (Ex.mk rk rn (some true) []) 1), eI 1]) ?_ (af53 (Ex.mk rk rn (some true) []) 1 (by omega) (by unfold maxK; omega)) ?_
  · simp only [eG, eS, eE_eta, famExpr_t, tE_k, tE_n, tE_nn, tE_ks, bne_self_eq_false]; exact rfl
  simp +contextual -implicitDefEqProofs only [hk1, mkL, mkE0_mk, Ex.k_mk, Ex.n_mk, Ex.nn_mk, Ex.ks_mk, hnp, List.map_nil, List.isEmpty_nil, eG, eS, eE_eta, famExpr_t, tE_k, tE_n, tE_nn, tE_ks, bne_self_eq_false, go_sem, eI, eB, ↓reduceIte, Nat.reduceEqDiff, Nat.reduceAdd, Nat.reduceLeDiff, Nat.reduceMul, Nat.reduceBEq, Nat.reduceBneDiff, Nat.reduceLT, Nat.reduceSub, decide_true, decide_false, and_self, true_and, and_true, false_and, and_false, not_true_eq_false, not_false_eq_true, false_implies, true_implies, implies_true, ge_iff_le, Bool.false_eq_true, List.cons_append, List.nil_append]
end Go.Ax
