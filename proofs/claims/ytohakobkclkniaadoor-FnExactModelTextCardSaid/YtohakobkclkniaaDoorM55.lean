/- Contracts of functions of the seat, proved over the engine. No condition. -/
import Derived.Test.YtohakobkclkniaaDoorX80
import Derived.Test.YtohakobkclkniaaDoorChecked
set_option linter.unusedSimpArgs false
set_option linter.unusedVariables false
set_option linter.unnecessarySimpa false
namespace Go.Ax
open Go.Proofs
set_option linter.unusedSimpArgs false
theorem mixed : Tryd.prog.follows .mixedOrders = true := by kernel_rfl
theorem res77 : resF Tryd.prog 77 = some (12, cSzP, [.t 4]) := by kernel_rfl
theorem res34 : resF Tryd.prog 34 = some (27, cSzC 77 1 false, [.t 4]) := by kernel_rfl
theorem res35 : resF Tryd.prog 35 = some (27, cSzC 34 1 false, [.t 4]) := by kernel_rfl

def rc8 : RC := (.seq (.reg false [⟨none, .box 2 5 (.t 0)⟩, ⟨none, .mv 4 (.c (.sc (.int .i64 0)))⟩]) ((.seq (.reg false [⟨none, .fa 5 3 (.t 2)⟩, ⟨none, .ld 6 false 1 (.t 5)⟩, ⟨none, .mv 7 (.t 1)⟩, ⟨none, .call (some 8) 34 [(.t 6), (.t 7)]⟩, ⟨none, .mv 1 (.t 8)⟩]) ((.seq ((.seq (.reg false [⟨none, .mv 9 (.t 1)⟩, ⟨none, .bin 10 .lss (.t 9) (.c (.sc (.int .i64 0)))⟩]) (.cond (.t 10) ((.seq (.reg false [⟨none, .mv 4 (.c (.sc (.int .i64 (-1))))⟩]) (.ret))) (.skip)))) ((.seq (.reg false [⟨none, .fa 11 4 (.t 2)⟩, ⟨none, .ld 12 false 1 (.t 11)⟩, ⟨none, .mv 13 (.t 1)⟩, ⟨none, .call (some 14) 35 [(.t 12), (.t 13)]⟩, ⟨none, .mv 1 (.t 14)⟩]) ((.seq ((.seq (.reg false [⟨none, .mv 15 (.t 1)⟩, ⟨none, .bin 16 .lss (.t 15) (.c (.sc (.int .i64 0)))⟩]) (.cond (.t 16) ((.seq (.reg false [⟨none, .mv 4 (.c (.sc (.int .i64 (-1))))⟩]) (.ret))) (.skip)))) ((.seq (.reg false [⟨none, .mv 17 (.t 1)⟩, ⟨none, .mv 4 (.t 17)⟩]) (.ret))))))))))))
theorem res8 : resF Tryd.prog 8 = some (18, rc8, [.t 4]) := by kernel_rfl
theorem res15 : resF Tryd.prog 15 = some (11, k_toSig, [.c 2 2 true]) := by kernel_rfl
theorem af15 : K_toSig Tryd.prog 15 := a_toSig mixed res15
theorem res80 : resF Tryd.prog 80 = some (22, cToS 1 (.sc (.bool false)), [.t 2]) := by kernel_rfl
theorem res38 : resF Tryd.prog 38 = some (23, cToC 80 1 24 false (.ls (some true) 1 []), [.t 2]) := by kernel_rfl
theorem res39 : resF Tryd.prog 39 = some (23, cToC 38 1 24 false (.ls (some true) 1 []), [.t 2]) := by kernel_rfl

def rc10 : RC := (.seq (.reg false [⟨none, .box 1 5 (.t 0)⟩, ⟨none, .zer 2 5 (.ag [(.sc (.int .i64 0)), (.sc (.int .i64 0)), (.sc (.int .i64 0)), (.ls (some true) 1 []), (.ls (some true) 1 [])])⟩]) ((.seq (.reg false [⟨none, .zer 3 5 (.ag [(.sc (.int .i64 0)), (.sc (.int .i64 0)), (.sc (.int .i64 0)), (.ls (some true) 1 []), (.ls (some true) 1 [])])⟩]) ((.seq (.reg false [⟨none, .fa 4 0 (.t 1)⟩, ⟨none, .ld 5 true 2 (.t 4)⟩, ⟨none, .call (some 6) 15 [(.t 5)]⟩, ⟨none, .fa 7 0 (.t 3)⟩, ⟨none, .st 2 (.t 7) (.t 6)⟩]) ((.seq (.reg false [⟨none, .fa 8 2 (.t 1)⟩, ⟨none, .ld 9 false 1 (.t 8)⟩, ⟨none, .fa 10 2 (.t 3)⟩, ⟨none, .st 1 (.t 10) (.t 9)⟩]) ((.seq (.reg false [⟨none, .fa 11 3 (.t 1)⟩, ⟨none, .ld 12 false 1 (.t 11)⟩, ⟨none, .call (some 13) 38 [(.t 12)]⟩, ⟨none, .fa 14 3 (.t 3)⟩, ⟨none, .st 1 (.t 14) (.t 13)⟩]) ((.seq (.reg false [⟨none, .fa 15 4 (.t 1)⟩, ⟨none, .ld 16 false 1 (.t 15)⟩, ⟨none, .call (some 17) 39 [(.t 16)]⟩, ⟨none, .fa 18 4 (.t 3)⟩, ⟨none, .st 1 (.t 18) (.t 17)⟩]) ((.seq (.reg false [⟨none, .ld 19 true 5 (.t 3)⟩, ⟨none, .st 5 (.t 2) (.t 19)⟩]) (.ret))))))))))))))
theorem res10 : resF Tryd.prog 10 = some (20, rc10, [.c 2 5 true]) := by kernel_rfl
theorem res91 : resF Tryd.prog 91 = some (15, k_l00In, [.t 6]) := by kernel_rfl
theorem af91 : K_l00In Tryd.prog 91 := a_l00In mixed res91
theorem res90 : resF Tryd.prog 90 = some (11, k_l01Sig 91, [.t 2]) := by kernel_rfl
theorem af90 : K_l01Sig Tryd.prog 90 := a_l01Sig mixed res90 af91
theorem res78 : resF Tryd.prog 78 = some (36, k_l05Tests 90 91, [.t 6]) := by kernel_rfl
theorem af78 : K_l05Tests Tryd.prog 78 := a_l05Tests mixed res78 af90 af91
theorem res36 : resF Tryd.prog 36 = some (82, k_l05Ok 78, [.t 2]) := by kernel_rfl
theorem af36 : K_l05Ok Tryd.prog 36 := a_l05Ok mixed res36 af78
theorem res54 : resF Tryd.prog 54 = some (20, k_spDecimal 54, [.t 2]) := by kernel_rfl
theorem af54 : K_spDecimal Tryd.prog 54 := a_spDecimal mixed res54
theorem res79 : resF Tryd.prog 79 = some (20, k_l05Bits, [.t 2]) := by kernel_rfl
theorem af79 : K_l05Bits Tryd.prog 79 := a_l05Bits mixed res79
theorem res37 : resF Tryd.prog 37 = some (91, k_l05Text 54 79, [.t 2]) := by kernel_rfl
theorem af37 : K_l05Text Tryd.prog 37 := a_l05Text mixed res37 af54 af79
theorem res9 : resF Tryd.prog 9 = some (6, k_spModelText 36 37, [.t 2]) := by kernel_rfl
theorem af9 : K_spModelText Tryd.prog 9 := a_spModelText mixed res9 af36 af37
theorem res95 : resF Tryd.prog 95 = some (15, k_within, [.t 6]) := by kernel_rfl
theorem af95 : K_within Tryd.prog 95 := a_within mixed res95
theorem res94 : resF Tryd.prog 94 = some (11, k_validSig 95, [.t 2]) := by kernel_rfl
theorem af94 : K_validSig Tryd.prog 94 := a_validSig mixed res94 af95
theorem res112 : resF Tryd.prog 112 = some (24, k_isTableB, [.t 6]) := by kernel_rfl
theorem af112 : K_isTableB Tryd.prog 112 := a_isTableB mixed res112
theorem res81 : resF Tryd.prog 81 = some (46, k_isFrameB 94 95 112, [.t 8]) := by kernel_rfl
theorem af81 : K_isFrameB Tryd.prog 81 := a_isFrameB mixed res81 af94 af95 af112
theorem res40 : resF Tryd.prog 40 = some (12, k_validModel 81, [.t 2]) := by kernel_rfl
theorem af40 : K_validModel Tryd.prog 40 := a_validModel mixed res40 af81
theorem res140 : resF Tryd.prog 140 = some (15, k_small, [.t 2]) := by kernel_rfl
theorem af140 : K_small Tryd.prog 140 := a_small mixed res140
theorem res122 : resF Tryd.prog 122 = some (54, k_formatInt 140 141 142 143 (othF Tryd.prog 122 0) (othF Tryd.prog 122 1) (othF Tryd.prog 122 2) (othF Tryd.prog 122 3), [.t 4]) := by kernel_rfl
theorem af122 : K_formatInt Tryd.prog 122 := a_formatInt mixed res122 af140
theorem res98 : resF Tryd.prog 98 = some (8, k_formatIntS 122, [.t 4]) := by kernel_rfl
theorem af98 : K_formatIntS Tryd.prog 98 := a_formatIntS mixed res98 af122
theorem res59 : resF Tryd.prog 59 = some (5, k_imDecimal 98, [.t 2]) := by kernel_rfl
theorem af59 : K_imDecimal Tryd.prog 59 := a_imDecimal mixed res59 af98
theorem res82 : resF Tryd.prog 82 = some (19, k_digits, [.t 2]) := by kernel_rfl
theorem af82 : K_digits Tryd.prog 82 := a_digits mixed res82
theorem res41 : resF Tryd.prog 41 = some (66, k_modelText 59 82, [.t 2]) := by kernel_rfl
theorem af41 : K_modelText Tryd.prog 41 := a_modelText mixed res41 af59 af82
theorem res11 : resF Tryd.prog 11 = some (8, k_imModelText 40 41, [.t 2]) := by kernel_rfl
theorem af11 : K_imModelText Tryd.prog 11 := a_imModelText mixed res11 af40 af41
theorem res42 : resF Tryd.prog 42 = some (15, k_eqSig, [.t 4]) := by kernel_rfl
theorem af42 : K_eqSig Tryd.prog 42 := a_eqSig mixed res42
theorem res83 : resF Tryd.prog 83 = some (26, cEqB, [.t 4]) := by kernel_rfl
theorem res43 : resF Tryd.prog 43 = some (27, cEqC 83 1 false, [.t 4]) := by kernel_rfl
theorem res44 : resF Tryd.prog 44 = some (27, cEqC 43 1 false, [.t 4]) := by kernel_rfl

def rc12 : RC := (.seq (.reg false [⟨none, .box 2 5 (.t 0)⟩, ⟨none, .box 3 5 (.t 1)⟩, ⟨none, .mv 4 (.c (.sc (.bool false)))⟩]) ((.seq ((.seq (.reg false [⟨none, .fa 5 0 (.t 2)⟩, ⟨none, .ld 6 true 2 (.t 5)⟩, ⟨none, .fa 7 0 (.t 3)⟩, ⟨none, .ld 8 true 2 (.t 7)⟩, ⟨none, .call (some 9) 42 [(.t 6), (.t 8)]⟩, ⟨none, .un 10 .not (.t 9)⟩]) (.cond (.t 10) ((.seq (.reg false [⟨none, .mv 4 (.c (.sc (.bool false)))⟩]) (.ret))) (.skip)))) ((.seq ((.seq (.reg false [⟨none, .fa 11 2 (.t 2)⟩, ⟨none, .ld 12 false 1 (.t 11)⟩, ⟨none, .fa 13 2 (.t 3)⟩, ⟨none, .ld 14 false 1 (.t 13)⟩, ⟨none, .bin 15 .neq (.t 12) (.t 14)⟩]) (.cond (.t 15) ((.seq (.reg false [⟨none, .mv 4 (.c (.sc (.bool false)))⟩]) (.ret))) (.skip)))) ((.seq ((.seq (.reg false [⟨none, .fa 16 3 (.t 2)⟩, ⟨none, .ld 17 false 1 (.t 16)⟩, ⟨none, .fa 18 3 (.t 3)⟩, ⟨none, .ld 19 false 1 (.t 18)⟩, ⟨none, .call (some 20) 43 [(.t 17), (.t 19)]⟩, ⟨none, .un 21 .not (.t 20)⟩]) (.cond (.t 21) ((.seq (.reg false [⟨none, .mv 4 (.c (.sc (.bool false)))⟩]) (.ret))) (.skip)))) ((.seq ((.seq (.reg false [⟨none, .fa 22 4 (.t 2)⟩, ⟨none, .ld 23 false 1 (.t 22)⟩, ⟨none, .fa 24 4 (.t 3)⟩, ⟨none, .ld 25 false 1 (.t 24)⟩, ⟨none, .call (some 26) 44 [(.t 23), (.t 25)]⟩, ⟨none, .un 27 .not (.t 26)⟩]) (.cond (.t 27) ((.seq (.reg false [⟨none, .mv 4 (.c (.sc (.bool false)))⟩]) (.ret))) (.skip)))) ((.seq (.reg false [⟨none, .mv 4 (.c (.sc (.bool true)))⟩]) (.ret))))))))))))
theorem res12 : resF Tryd.prog 12 = some (28, rc12, [.t 4]) := by kernel_rfl

def rc3 : RC := (.seq (.reg false [⟨none, .box 1 5 (.t 0)⟩, ⟨none, .mv 2 (.c (.sc (.bool false)))⟩]) ((.seq (.reg false [⟨none, .mv 3 (.c (.sc (.int .i64 1048576)))⟩]) ((.seq (.reg false [⟨none, .ld 7 true 5 (.t 1)⟩, ⟨none, .mv 8 (.t 3)⟩, ⟨none, .call (some 9) 8 [(.t 7), (.t 8)]⟩, ⟨none, .mv 3 (.t 9)⟩]) ((.seq ((.seq (.reg false [⟨none, .mv 10 (.t 3)⟩, ⟨none, .bin 11 .lss (.t 10) (.c (.sc (.int .i64 0)))⟩]) (.cond (.t 11) ((.seq (.reg false [⟨none, .mv 2 (.c (.sc (.bool true)))⟩]) (.ret))) (.skip)))) ((.seq (.reg false [⟨none, .ld 12 true 5 (.t 1)⟩, ⟨none, .call (some 13) 10 [(.t 12)]⟩, ⟨none, .call (some 14) 9 [(.t 13)]⟩, ⟨none, .mv 4 (.t 14)⟩]) ((.seq (.reg false [⟨none, .ld 15 true 5 (.t 1)⟩, ⟨none, .call (some 16) 10 [(.t 15)]⟩, ⟨none, .zer 5 5 (.ag [(.sc (.int .i64 0)), (.sc (.int .i64 0)), (.sc (.int .i64 0)), (.ls (some true) 1 []), (.ls (some true) 1 [])])⟩, ⟨none, .st 5 (.t 5) (.t 16)⟩]) ((.seq (.reg false [⟨none, .ld 17 true 5 (.t 5)⟩, ⟨none, .call (some 18) 11 [(.t 17)]⟩, ⟨none, .mv 6 (.t 18)⟩]) ((.seq ((.seq (.reg false [⟨none, .mv 19 (.t 6)⟩, ⟨none, .mv 20 (.t 4)⟩, ⟨none, .bin 21 .neq (.t 19) (.t 20)⟩]) (.cond (.t 21) ((.seq (.reg false [⟨none, .mv 2 (.c (.sc (.bool false)))⟩]) (.ret))) (.skip)))) ((.seq ((.seq (.reg true [⟨none, .ld 22 true 5 (.t 5)⟩, ⟨none, .ld 23 true 5 (.t 1)⟩, ⟨none, .call (some 24) 10 [(.t 23)]⟩, ⟨none, .call (some 25) 12 [(.t 22), (.t 24)]⟩, ⟨none, .un 26 .not (.t 25)⟩]) (.cond (.t 26) ((.seq (.reg false [⟨none, .mv 2 (.c (.sc (.bool false)))⟩]) (.ret))) (.skip)))) ((.seq (.reg false [⟨none, .mv 2 (.c (.sc (.bool true)))⟩]) (.ret))))))))))))))))))))
theorem res3 : resF Tryd.prog 3 = some (27, rc3, [.t 2]) := by kernel_rfl
noncomputable def famBoolS : Fam Tryd.prog (eS 1 eB) 77 80 83 := famP mixed encB noB ⟨rfl, rfl, rfl⟩ (by omega) res77 res80 (eqL fun x y => x == y) (fun _ => eqL_refl fun _ _ => by simp) fun a b => af_eqB mixed res83 a b
theorem famBoolS_t (x) : famBoolS.t x = (some false, x.2) := rfl
noncomputable def famBoolSS : Fam Tryd.prog (eS 1 (eS 1 eB)) 34 38 43 := famC mixed famBoolS (encS eB 1) ⟨rfl, rfl, rfl⟩ (by omega) res34 res38 res43
theorem famBoolSS_t (x) : famBoolSS.t x = (some false, x.2.map famBoolS.t) := rfl
noncomputable def famBoolSSS : Fam Tryd.prog (eS 1 (eS 1 (eS 1 eB))) 35 39 44 := famC mixed famBoolSS (encS (eS 1 eB) 1) ⟨rfl, rfl, rfl⟩ (by omega) res35 res39 res44
theorem famBoolSSS_t (x) : famBoolSSS.t x = (some false, x.2.map famBoolSS.t) := rfl
noncomputable def szModel (m : Mo) : Int → Int := fun l => nx (famBoolSS.s m.2.2.1 l) (fun l => nx (famBoolSSS.s m.2.2.2 l) (fun l => l))
def fitModel (m : Mo) : Prop := famBoolSS.fit m.2.2.1 ∧ famBoolSSS.fit m.2.2.2
noncomputable def tModel (m : Mo) : Mo := (m.1, m.2.1, famBoolSS.t m.2.2.1, famBoolSSS.t m.2.2.2)
noncomputable def qModel (a b : Mo) : Bool := (qG a.1 b.1 && ((a.2.1 == b.2.1) && (famBoolSS.q a.2.2.1 b.2.2.1 && famBoolSSS.q a.2.2.2 b.2.2.2)))
theorem szModel_in (m : Mo) (l : Int) (h1 : 0 ≤ l) (h2 : l ≤ 1048576) : -1 ≤ szModel m l ∧ szModel m l ≤ l := by
 refine in_tr (Int.le_refl l) (nx_in (famBoolSS.s_in m.2.2.1 l h1 (by omega)) h1 (by omega) fun y0 a0 b0 => ?_)
 refine in_tr b0 (nx_in (famBoolSSS.s_in m.2.2.2 y0 a0 (by omega)) a0 (by omega) fun y1 a1 b1 => ?_)
 exact ⟨by omega, b1⟩
theorem szModel_fit (m : Mo) (l : Int) (h2 : l ≤ 1048576) (h1 : 0 ≤ l) (h : 0 ≤ szModel m l) : fitModel m := by
 obtain ⟨p0, h⟩ := nx_fit h
 have e0 := famBoolSS.s_fit m.2.2.1 l (by omega) h1 p0
 have b0 := famBoolSS.s_in m.2.2.1 l h1 (by omega)
 obtain ⟨p1, h⟩ := nx_fit h
 have e1 := famBoolSSS.s_fit m.2.2.2 _ (by omega) p0 p1
 have b1 := famBoolSSS.s_in m.2.2.2 (famBoolSS.s m.2.2.1 l) p0 (by omega)
 exact ⟨e0, e1⟩
theorem af8 (m : Mo) (l : Int) (h1 : 0 ≤ l) (h2 : l ≤ 1048576) : AF Tryd.prog 8 [eM m, eI l] (.own (eI (szModel m l))) := by
 refine af_of_res res8 mixed rfl fun _ => ?_
 simp +contextual -implicitDefEqProofs only [rc8, eM, eG, eS, go_sem, eI, eB, ↓reduceIte, Nat.reduceEqDiff, Nat.reduceAdd, Nat.reduceLeDiff, Nat.reduceMul, Nat.reduceBEq, Nat.reduceBneDiff, Nat.reduceLT, Nat.reduceSub]
 refine callQ_self ?_ (famBoolSS.afS m.2.2.1 l (by omega) (by omega)) ?_
 ·exact rfl
 simp +contextual -implicitDefEqProofs only [eM, eG, eS, go_sem, eI, eB, ↓reduceIte, Nat.reduceEqDiff, Nat.reduceAdd, Nat.reduceLeDiff, Nat.reduceMul, Nat.reduceBEq, Nat.reduceBneDiff, Nat.reduceLT, Nat.reduceSub]
 have b0 := famBoolSS.s_in m.2.2.1 l (by omega) (by omega)
 refine ⟨fun h => D.Le.sc_eq (by simp only [szModel]; rw [nx_neg h]), fun g0 => ?_⟩
 refine callQ_self ?_ (famBoolSSS.afS m.2.2.2 (famBoolSS.s m.2.2.1 l) (by omega) (by omega)) ?_
 ·exact rfl
 simp +contextual -implicitDefEqProofs only [eM, eG, eS, go_sem, eI, eB, ↓reduceIte, Nat.reduceEqDiff, Nat.reduceAdd, Nat.reduceLeDiff, Nat.reduceMul, Nat.reduceBEq, Nat.reduceBneDiff, Nat.reduceLT, Nat.reduceSub]
 have b1 := famBoolSSS.s_in m.2.2.2 (famBoolSS.s m.2.2.1 l) (by omega) (by omega)
 refine ⟨fun h => D.Le.sc_eq (by simp only [szModel]; rw [nx_pos g0, nx_neg h]), fun g1 => ?_⟩
 exact D.Le.sc_eq (by simp only [szModel]; rw [nx_pos g0, nx_pos g1])
theorem af10 (m : Mo) (h : fitModel m) : AF Tryd.prog 10 [eM m] (.own (eM (tModel m))) := by
 refine af_of_res res10 mixed rfl fun _ => ?_
 simp +contextual -implicitDefEqProofs only [rc10, eM, eG, eS, tModel, famBoolSS_t, famBoolSSS_t, go_sem, eI, eB, ↓reduceIte, Nat.reduceEqDiff, Nat.reduceAdd, Nat.reduceLeDiff, Nat.reduceMul, Nat.reduceBEq, Nat.reduceBneDiff, Nat.reduceLT, Nat.reduceSub]
 refine callQ_self ?_ (af15 m.1) ?_
 ·exact rfl
 simp +contextual -implicitDefEqProofs only [eM, eG, eS, tModel, famBoolSS_t, famBoolSSS_t, go_sem, eI, eB, ↓reduceIte, Nat.reduceEqDiff, Nat.reduceAdd, Nat.reduceLeDiff, Nat.reduceMul, Nat.reduceBEq, Nat.reduceBneDiff, Nat.reduceLT, Nat.reduceSub]
 refine callQ_self ?_ (famBoolSS.afT m.2.2.1 h.1) ?_
 ·exact rfl
 simp +contextual -implicitDefEqProofs only [eM, eG, eS, tModel, famBoolSS_t, famBoolSSS_t, go_sem, eI, eB, ↓reduceIte, Nat.reduceEqDiff, Nat.reduceAdd, Nat.reduceLeDiff, Nat.reduceMul, Nat.reduceBEq, Nat.reduceBneDiff, Nat.reduceLT, Nat.reduceSub]
 refine callQ_self ?_ (famBoolSSS.afT m.2.2.2 h.2) ?_
 ·exact rfl
 simp +contextual -implicitDefEqProofs only [eM, eG, eS, tModel, famBoolSS_t, famBoolSSS_t, go_sem, eI, eB, ↓reduceIte, Nat.reduceEqDiff, Nat.reduceAdd, Nat.reduceLeDiff, Nat.reduceMul, Nat.reduceBEq, Nat.reduceBneDiff, Nat.reduceLT, Nat.reduceSub]
theorem af12 (a b : Mo) : AF Tryd.prog 12 [eM a, eM b] (.own (eB (qModel a b))) := by
 refine af_of_res res12 mixed rfl fun _ => ?_
 simp +contextual -implicitDefEqProofs only [rc12, qModel, bne, Bool.not_true, Bool.not_false, Bool.true_and, Bool.false_and, Bool.and_true, Bool.and_false, eM, eG, eS, go_sem, eI, eB, ↓reduceIte, Nat.reduceEqDiff, Nat.reduceAdd, Nat.reduceLeDiff, Nat.reduceMul, Nat.reduceBEq, Nat.reduceBneDiff, Nat.reduceLT, Nat.reduceSub]
 refine callQ_self ?_ (af42 a.1 b.1) ?_
 ·exact rfl
 cases e0 : qG a.1 b.1
 ·simp +contextual -implicitDefEqProofs only [qModel, bne, Bool.not_true, Bool.not_false, Bool.true_and, Bool.false_and, Bool.and_true, Bool.and_false, eM, eG, eS, e0, go_sem, eI, eB, ↓reduceIte, Nat.reduceEqDiff, Nat.reduceAdd, Nat.reduceLeDiff, Nat.reduceMul, Nat.reduceBEq, Nat.reduceBneDiff, Nat.reduceLT, Nat.reduceSub]
 cases e1 : (a.2.1 == b.2.1)
 ·simp +contextual -implicitDefEqProofs only [qModel, bne, Bool.not_true, Bool.not_false, Bool.true_and, Bool.false_and, Bool.and_true, Bool.and_false, eM, eG, eS, e0, e1, go_sem, eI, eB, ↓reduceIte, Nat.reduceEqDiff, Nat.reduceAdd, Nat.reduceLeDiff, Nat.reduceMul, Nat.reduceBEq, Nat.reduceBneDiff, Nat.reduceLT, Nat.reduceSub]
 simp +contextual -implicitDefEqProofs only [qModel, bne, Bool.not_true, Bool.not_false, Bool.true_and, Bool.false_and, Bool.and_true, Bool.and_false, eM, eG, eS, e0, e1, go_sem, eI, eB, ↓reduceIte, Nat.reduceEqDiff, Nat.reduceAdd, Nat.reduceLeDiff, Nat.reduceMul, Nat.reduceBEq, Nat.reduceBneDiff, Nat.reduceLT, Nat.reduceSub]
 refine callQ_self ?_ (famBoolSS.afQ a.2.2.1 b.2.2.1) ?_
 ·exact rfl
 cases e2 : famBoolSS.q a.2.2.1 b.2.2.1
 ·simp +contextual -implicitDefEqProofs only [qModel, bne, Bool.not_true, Bool.not_false, Bool.true_and, Bool.false_and, Bool.and_true, Bool.and_false, eM, eG, eS, e0, e1, e2, go_sem, eI, eB, ↓reduceIte, Nat.reduceEqDiff, Nat.reduceAdd, Nat.reduceLeDiff, Nat.reduceMul, Nat.reduceBEq, Nat.reduceBneDiff, Nat.reduceLT, Nat.reduceSub]
 simp +contextual -implicitDefEqProofs only [qModel, bne, Bool.not_true, Bool.not_false, Bool.true_and, Bool.false_and, Bool.and_true, Bool.and_false, eM, eG, eS, e0, e1, e2, go_sem, eI, eB, ↓reduceIte, Nat.reduceEqDiff, Nat.reduceAdd, Nat.reduceLeDiff, Nat.reduceMul, Nat.reduceBEq, Nat.reduceBneDiff, Nat.reduceLT, Nat.reduceSub]
 refine callQ_self ?_ (famBoolSSS.afQ a.2.2.2 b.2.2.2) ?_
 ·exact rfl
 cases e3 : famBoolSSS.q a.2.2.2 b.2.2.2
 ·simp +contextual -implicitDefEqProofs only [qModel, bne, Bool.not_true, Bool.not_false, Bool.true_and, Bool.false_and, Bool.and_true, Bool.and_false, eM, eG, eS, e0, e1, e2, e3, go_sem, eI, eB, ↓reduceIte, Nat.reduceEqDiff, Nat.reduceAdd, Nat.reduceLeDiff, Nat.reduceMul, Nat.reduceBEq, Nat.reduceBneDiff, Nat.reduceLT, Nat.reduceSub]
 ·simp +contextual -implicitDefEqProofs only [qModel, bne, Bool.not_true, Bool.not_false, Bool.true_and, Bool.false_and, Bool.and_true, Bool.and_false, eM, eG, eS, e0, e1, e2, e3, go_sem, eI, eB, ↓reduceIte, Nat.reduceEqDiff, Nat.reduceAdd, Nat.reduceLeDiff, Nat.reduceMul, Nat.reduceBEq, Nat.reduceBneDiff, Nat.reduceLT, Nat.reduceSub]
theorem qModel_refl (m : Mo) : qModel m m = true := by simp [qModel, qG, famBoolSS.q_refl, famBoolSSS.q_refl]
noncomputable def famModel : Fam Tryd.prog eM 8 10 12 := ⟨szModel, tModel, qModel, fitModel, szModel_in, szModel_fit, qModel_refl, af8, af10, af12⟩
theorem famModel_t (x) : famModel.t x = tModel x := rfl
theorem law (m : Mo) : AF Tryd.prog 3 [eM m] (.own (eB true)) := by
 refine af_of_res res3 mixed rfl fun hbd => ?_
 simp +contextual -implicitDefEqProofs only [rc3, eM, eG, eS, famModel_t, tModel, famBoolSS_t, famBoolSSS_t, bne_self_eq_false, go_sem, eI, eB, ↓reduceIte, Nat.reduceEqDiff, Nat.reduceAdd, Nat.reduceLeDiff, Nat.reduceMul, Nat.reduceBEq, Nat.reduceBneDiff, Nat.reduceLT, Nat.reduceSub]
 refine callQ_self (ds := [eM m, eI 1048576]) ?_ (famModel.afS m 1048576 (by omega) (by omega)) ?_
 ·simp only [eM, eG, eS, famModel_t, tModel, famBoolSS_t, famBoolSSS_t, bne_self_eq_false]; exact rfl
 simp +contextual -implicitDefEqProofs only [eM, eG, eS, famModel_t, tModel, famBoolSS_t, famBoolSSS_t, bne_self_eq_false, go_sem, eI, eB, ↓reduceIte, Nat.reduceEqDiff, Nat.reduceAdd, Nat.reduceLeDiff, Nat.reduceMul, Nat.reduceBEq, Nat.reduceBneDiff, Nat.reduceLT, Nat.reduceSub]
 have sb0 := famModel.s_in m 1048576 (by omega) (by omega)
 refine fun hs0 => ?_
 have hf0 := famModel.s_fit m 1048576 (by omega) (by omega) (by omega)
 refine callQ_self (ds := [eM m]) ?_ (famModel.afT m hf0) ?_
 ·simp only [eM, eG, eS, famModel_t, tModel, famBoolSS_t, famBoolSSS_t, bne_self_eq_false]; exact rfl
 simp +contextual -implicitDefEqProofs only [eM, eG, eS, famModel_t, tModel, famBoolSS_t, famBoolSSS_t, bne_self_eq_false, go_sem, eI, eB, ↓reduceIte, Nat.reduceEqDiff, Nat.reduceAdd, Nat.reduceLeDiff, Nat.reduceMul, Nat.reduceBEq, Nat.reduceBneDiff, Nat.reduceLT, Nat.reduceSub]
 have hsp := af9 (famModel.t m)
 have him := af11 (famModel.t m)
 have hqM := famModel.afQ (famModel.t m) (famModel.t m)
 rw [famModel.q_refl] at hqM
 generalize txtMo (famModel.t m) = tx at hsp him
 refine callQ_self (ds := [eM (famModel.t m)]) ?_ (hsp) ?_
 ·simp only [eM, eG, eS, famModel_t, tModel, famBoolSS_t, famBoolSSS_t, bne_self_eq_false]; exact rfl
 simp +contextual -implicitDefEqProofs only [eT, eM, eG, eS, famModel_t, tModel, famBoolSS_t, famBoolSSS_t, bne_self_eq_false, go_sem, eI, eB, ↓reduceIte, Nat.reduceEqDiff, Nat.reduceAdd, Nat.reduceLeDiff, Nat.reduceMul, Nat.reduceBEq, Nat.reduceBneDiff, Nat.reduceLT, Nat.reduceSub]
 refine callQ_self (ds := [eM m]) ?_ (famModel.afT m hf0) ?_
 ·simp only [eM, eG, eS, famModel_t, tModel, famBoolSS_t, famBoolSSS_t, bne_self_eq_false]; exact rfl
 simp +contextual -implicitDefEqProofs only [eT, eM, eG, eS, famModel_t, tModel, famBoolSS_t, famBoolSSS_t, bne_self_eq_false, go_sem, eI, eB, ↓reduceIte, Nat.reduceEqDiff, Nat.reduceAdd, Nat.reduceLeDiff, Nat.reduceMul, Nat.reduceBEq, Nat.reduceBneDiff, Nat.reduceLT, Nat.reduceSub]
 refine callQ_self (ds := [eM (famModel.t m)]) ?_ (him) ?_
 ·simp only [eM, eG, eS, famModel_t, tModel, famBoolSS_t, famBoolSSS_t, bne_self_eq_false]; exact rfl
 simp +contextual -implicitDefEqProofs only [eT, beq_self_eq_true, eM, eG, eS, famModel_t, tModel, famBoolSS_t, famBoolSSS_t, bne_self_eq_false, go_sem, eI, eB, ↓reduceIte, Nat.reduceEqDiff, Nat.reduceAdd, Nat.reduceLeDiff, Nat.reduceMul, Nat.reduceBEq, Nat.reduceBneDiff, Nat.reduceLT, Nat.reduceSub]
 refine callQ_self (ds := [eM m]) ?_ (famModel.afT m hf0) ?_
 ·simp only [eM, eG, eS, famModel_t, tModel, famBoolSS_t, famBoolSSS_t, bne_self_eq_false]; exact rfl
 simp +contextual -implicitDefEqProofs only [eT, eM, eG, eS, famModel_t, tModel, famBoolSS_t, famBoolSSS_t, bne_self_eq_false, go_sem, eI, eB, ↓reduceIte, Nat.reduceEqDiff, Nat.reduceAdd, Nat.reduceLeDiff, Nat.reduceMul, Nat.reduceBEq, Nat.reduceBneDiff, Nat.reduceLT, Nat.reduceSub]
 refine callQ_self (ds := [eM (famModel.t m), eM (famModel.t m)]) ?_ (hqM) ?_
 ·simp only [eM, eG, eS, famModel_t, tModel, famBoolSS_t, famBoolSSS_t, bne_self_eq_false]; exact rfl
 simp +contextual -implicitDefEqProofs only [Bool.not_true, eT, eM, eG, eS, famModel_t, tModel, famBoolSS_t, famBoolSSS_t, bne_self_eq_false, go_sem, eI, eB, ↓reduceIte, Nat.reduceEqDiff, Nat.reduceAdd, Nat.reduceLeDiff, Nat.reduceMul, Nat.reduceBEq, Nat.reduceBneDiff, Nat.reduceLT, Nat.reduceSub]
end Go.Ax
