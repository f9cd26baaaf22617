/- Contracts of functions of the seat, proved over the engine. No condition. -/
import Derived.Test.YtcklakmblpkbnaaAxF
import Derived.Test.YtcklakmblpkbnaaChecked
set_option linter.unusedSimpArgs false
set_option linter.unusedVariables false
namespace Go.Ax
open Go.Proofs
set_option linter.unusedSimpArgs false
theorem mixed : Try.prog.follows .mixedOrders = true := by kernel_rfl
theorem res157 : resF Try.prog 157 = some (12, cSzP, [.t 4]) := by kernel_rfl
theorem res80 : resF Try.prog 80 = some (27, cSzC 157 1 false, [.t 4]) := by kernel_rfl
theorem res93 : resF Try.prog 93 = some (12, cSzP, [.t 4]) := by kernel_rfl
theorem res94 : resF Try.prog 94 = some (27, cSzC 93 1 false, [.t 4]) := by kernel_rfl
theorem res103 : resF Try.prog 103 = some (27, cSzC 94 1 false, [.t 4]) := by kernel_rfl

def rc34 : RC :=
 (.seq
  (.reg false [⟨none, .box 2 5 (.t 0)⟩,
    ⟨none, .mv 4 (.c (.sc (.int .i64 0)))⟩])
  ((.seq
   (.reg false [⟨none, .fa 5 3 (.t 2)⟩,
     ⟨none, .ld 6 false 1 (.t 5)⟩,
     ⟨none, .mv 7 (.t 1)⟩,
     ⟨none, .call (some 8) 80 [(.t 6), (.t 7)]⟩,
     ⟨none, .mv 1 (.t 8)⟩])
   ((.seq
    ((.seq
     (.reg false [⟨none, .mv 9 (.t 1)⟩,
       ⟨none, .bin 10 .lss (.t 9) (.c (.sc (.int .i64 0)))⟩])
     (.cond (.t 10)
      ((.seq
       (.reg false [⟨none, .mv 4 (.c (.sc (.int .i64 (-1))))⟩])
       (.ret)))
      (.skip))))
    ((.seq
     (.reg false [⟨none, .fa 11 4 (.t 2)⟩,
       ⟨none, .ld 12 false 1 (.t 11)⟩,
       ⟨none, .mv 13 (.t 1)⟩,
       ⟨none, .call (some 14) 103 [(.t 12), (.t 13)]⟩,
       ⟨none, .mv 1 (.t 14)⟩])
     ((.seq
      ((.seq
       (.reg false [⟨none, .mv 15 (.t 1)⟩,
         ⟨none, .bin 16 .lss (.t 15) (.c (.sc (.int .i64 0)))⟩])
       (.cond (.t 16)
        ((.seq
         (.reg false [⟨none, .mv 4 (.c (.sc (.int .i64 (-1))))⟩])
         (.ret)))
        (.skip))))
      ((.seq
       (.reg false [⟨none, .mv 17 (.t 1)⟩,
         ⟨none, .mv 4 (.t 17)⟩])
       (.ret))))))))))))
theorem res34 : resF Try.prog 34 = some (18, rc34, [.t 4]) := by kernel_rfl
theorem res23 : resF Try.prog 23 = some (11, k_toSig, [.c 2 2 true]) := by kernel_rfl
theorem af23 : K_toSig Try.prog 23 := a_toSig mixed res23
theorem res159 : resF Try.prog 159 = some (22, cToS 1 (.sc (.bool false)), [.t 2]) := by kernel_rfl
theorem res85 : resF Try.prog 85 = some (23, cToC 159 1 24 false (.ls (some true) 1 []), [.t 2]) := by kernel_rfl
theorem res47 : resF Try.prog 47 = some (22, cToS 8 (.sc (.int .i64 0)), [.t 2]) := by kernel_rfl
theorem res97 : resF Try.prog 97 = some (23, cToC 47 1 24 false (.ls (some true) 1 []), [.t 2]) := by kernel_rfl
theorem res105 : resF Try.prog 105 = some (23, cToC 97 1 24 false (.ls (some true) 1 []), [.t 2]) := by kernel_rfl

def rc36 : RC :=
 (.seq
  (.reg false [⟨none, .box 1 5 (.t 0)⟩,
    ⟨none, .zer 2 5 (.ag [(.sc (.int .i64 0)), (.sc (.int .i64 0)), (.sc (.int .i64 0)), (.ls (some true) 1 []), (.ls (some true) 1 [])])⟩])
  ((.seq
   (.reg false [⟨none, .zer 3 5 (.ag [(.sc (.int .i64 0)), (.sc (.int .i64 0)), (.sc (.int .i64 0)), (.ls (some true) 1 []), (.ls (some true) 1 [])])⟩])
   ((.seq
    (.reg false [⟨none, .fa 4 0 (.t 1)⟩,
      ⟨none, .ld 5 true 2 (.t 4)⟩,
      ⟨none, .call (some 6) 23 [(.t 5)]⟩,
      ⟨none, .fa 7 0 (.t 3)⟩,
      ⟨none, .st 2 (.t 7) (.t 6)⟩])
    ((.seq
     (.reg false [⟨none, .fa 8 2 (.t 1)⟩,
       ⟨none, .ld 9 false 1 (.t 8)⟩,
       ⟨none, .fa 10 2 (.t 3)⟩,
       ⟨none, .st 1 (.t 10) (.t 9)⟩])
     ((.seq
      (.reg false [⟨none, .fa 11 3 (.t 1)⟩,
        ⟨none, .ld 12 false 1 (.t 11)⟩,
        ⟨none, .call (some 13) 85 [(.t 12)]⟩,
        ⟨none, .fa 14 3 (.t 3)⟩,
        ⟨none, .st 1 (.t 14) (.t 13)⟩])
      ((.seq
       (.reg false [⟨none, .fa 15 4 (.t 1)⟩,
         ⟨none, .ld 16 false 1 (.t 15)⟩,
         ⟨none, .call (some 17) 105 [(.t 16)]⟩,
         ⟨none, .fa 18 4 (.t 3)⟩,
         ⟨none, .st 1 (.t 18) (.t 17)⟩])
       ((.seq
        (.reg false [⟨none, .ld 19 true 5 (.t 3)⟩,
          ⟨none, .st 5 (.t 2) (.t 19)⟩])
        (.ret))))))))))))))
theorem res36 : resF Try.prog 36 = some (20, rc36, [.c 2 5 true]) := by kernel_rfl
theorem res83 : resF Try.prog 83 = some (15, k_l00In, [.t 6]) := by kernel_rfl
theorem af83 : K_l00In Try.prog 83 := a_l00In mixed res83
theorem res162 : resF Try.prog 162 = some (11, k_l01Sig 83, [.t 2]) := by kernel_rfl
theorem af162 : K_l01Sig Try.prog 162 := a_l01Sig mixed res162 af83
theorem res158 : resF Try.prog 158 = some (36, k_l05Tests 162 83, [.t 6]) := by kernel_rfl
theorem af158 : K_l05Tests Try.prog 158 := a_l05Tests mixed res158 af162 af83
theorem res104 : resF Try.prog 104 = some (113, k_l05CostsOk 158 83, [.t 2]) := by kernel_rfl
theorem af104 : K_l05CostsOk Try.prog 104 := a_l05CostsOk mixed res104 af158 af83
theorem res35 : resF Try.prog 35 = some (4, k_spValidCosts 104, [.t 2]) := by kernel_rfl
theorem af35 : K_spValidCosts Try.prog 35 := a_spValidCosts mixed res35 af104
theorem res88 : resF Try.prog 88 = some (15, k_within, [.t 6]) := by kernel_rfl
theorem af88 : K_within Try.prog 88 := a_within mixed res88
theorem res129 : resF Try.prog 129 = some (11, k_validSig 88, [.t 2]) := by kernel_rfl
theorem af129 : K_validSig Try.prog 129 := a_validSig mixed res129 af88
theorem res168 : resF Try.prog 168 = some (24, k_isTableB, [.t 6]) := by kernel_rfl
theorem af168 : K_isTableB Try.prog 168 := a_isTableB mixed res168
theorem res169 : resF Try.prog 169 = some (24, k_isTableI, [.t 6]) := by kernel_rfl
theorem af169 : K_isTableI Try.prog 169 := a_isTableI mixed res169
theorem res106 : resF Try.prog 106 = some (46, k_isFrameI 129 88 168 169, [.t 8]) := by kernel_rfl
theorem af106 : K_isFrameI Try.prog 106 := a_isFrameI mixed res106 af129 af88 af168 af169
theorem res37 : resF Try.prog 37 = some (44, k_imValidCosts 106 88, [.t 2]) := by kernel_rfl
theorem af37 : K_imValidCosts Try.prog 37 := a_imValidCosts mixed res37 af106 af88
theorem res90 : resF Try.prog 90 = some (15, k_eqSig, [.t 4]) := by kernel_rfl
theorem af90 : K_eqSig Try.prog 90 := a_eqSig mixed res90
theorem res161 : resF Try.prog 161 = some (26, cEqB, [.t 4]) := by kernel_rfl
theorem res91 : resF Try.prog 91 = some (27, cEqC 161 1 false, [.t 4]) := by kernel_rfl
theorem res50 : resF Try.prog 50 = some (26, cEqS, [.t 4]) := by kernel_rfl
theorem res100 : resF Try.prog 100 = some (27, cEqC 50 1 false, [.t 4]) := by kernel_rfl
theorem res107 : resF Try.prog 107 = some (27, cEqC 100 1 false, [.t 4]) := by kernel_rfl

def rc38 : RC :=
 (.seq
  (.reg false [⟨none, .box 2 5 (.t 0)⟩,
    ⟨none, .box 3 5 (.t 1)⟩,
    ⟨none, .mv 4 (.c (.sc (.bool false)))⟩])
  ((.seq
   ((.seq
    (.reg false [⟨none, .fa 5 0 (.t 2)⟩,
      ⟨none, .ld 6 true 2 (.t 5)⟩,
      ⟨none, .fa 7 0 (.t 3)⟩,
      ⟨none, .ld 8 true 2 (.t 7)⟩,
      ⟨none, .call (some 9) 90 [(.t 6), (.t 8)]⟩,
      ⟨none, .un 10 .not (.t 9)⟩])
    (.cond (.t 10)
     ((.seq
      (.reg false [⟨none, .mv 4 (.c (.sc (.bool false)))⟩])
      (.ret)))
     (.skip))))
   ((.seq
    ((.seq
     (.reg false [⟨none, .fa 11 2 (.t 2)⟩,
       ⟨none, .ld 12 false 1 (.t 11)⟩,
       ⟨none, .fa 13 2 (.t 3)⟩,
       ⟨none, .ld 14 false 1 (.t 13)⟩,
       ⟨none, .bin 15 .neq (.t 12) (.t 14)⟩])
     (.cond (.t 15)
      ((.seq
       (.reg false [⟨none, .mv 4 (.c (.sc (.bool false)))⟩])
       (.ret)))
      (.skip))))
    ((.seq
     ((.seq
      (.reg false [⟨none, .fa 16 3 (.t 2)⟩,
        ⟨none, .ld 17 false 1 (.t 16)⟩,
        ⟨none, .fa 18 3 (.t 3)⟩,
        ⟨none, .ld 19 false 1 (.t 18)⟩,
        ⟨none, .call (some 20) 91 [(.t 17), (.t 19)]⟩,
        ⟨none, .un 21 .not (.t 20)⟩])
      (.cond (.t 21)
       ((.seq
        (.reg false [⟨none, .mv 4 (.c (.sc (.bool false)))⟩])
        (.ret)))
       (.skip))))
     ((.seq
      ((.seq
       (.reg false [⟨none, .fa 22 4 (.t 2)⟩,
         ⟨none, .ld 23 false 1 (.t 22)⟩,
         ⟨none, .fa 24 4 (.t 3)⟩,
         ⟨none, .ld 25 false 1 (.t 24)⟩,
         ⟨none, .call (some 26) 107 [(.t 23), (.t 25)]⟩,
         ⟨none, .un 27 .not (.t 26)⟩])
       (.cond (.t 27)
        ((.seq
         (.reg false [⟨none, .mv 4 (.c (.sc (.bool false)))⟩])
         (.ret)))
        (.skip))))
      ((.seq
       (.reg false [⟨none, .mv 4 (.c (.sc (.bool true)))⟩])
       (.ret))))))))))))
theorem res38 : resF Try.prog 38 = some (28, rc38, [.t 4]) := by kernel_rfl

def rc6 : RC :=
 (.seq
  (.reg false [⟨none, .box 1 5 (.t 0)⟩,
    ⟨none, .mv 2 (.c (.sc (.bool false)))⟩])
  ((.seq
   (.reg false [⟨none, .mv 3 (.c (.sc (.int .i64 1048576)))⟩])
   ((.seq
    (.reg false [⟨none, .ld 7 true 5 (.t 1)⟩,
      ⟨none, .mv 8 (.t 3)⟩,
      ⟨none, .call (some 9) 34 [(.t 7), (.t 8)]⟩,
      ⟨none, .mv 3 (.t 9)⟩])
    ((.seq
     ((.seq
      (.reg false [⟨none, .mv 10 (.t 3)⟩,
        ⟨none, .bin 11 .lss (.t 10) (.c (.sc (.int .i64 0)))⟩])
      (.cond (.t 11)
       ((.seq
        (.reg false [⟨none, .mv 2 (.c (.sc (.bool true)))⟩])
        (.ret)))
       (.skip))))
     ((.seq
      (.reg false [⟨none, .ld 12 true 5 (.t 1)⟩,
        ⟨none, .call (some 13) 36 [(.t 12)]⟩,
        ⟨none, .call (some 14) 35 [(.t 13)]⟩,
        ⟨none, .mv 4 (.t 14)⟩])
      ((.seq
       (.reg false [⟨none, .ld 15 true 5 (.t 1)⟩,
         ⟨none, .call (some 16) 36 [(.t 15)]⟩,
         ⟨none, .zer 5 5 (.ag [(.sc (.int .i64 0)), (.sc (.int .i64 0)), (.sc (.int .i64 0)), (.ls (some true) 1 []), (.ls (some true) 1 [])])⟩,
         ⟨none, .st 5 (.t 5) (.t 16)⟩])
       ((.seq
        (.reg false [⟨none, .ld 17 true 5 (.t 5)⟩,
          ⟨none, .call (some 18) 37 [(.t 17)]⟩,
          ⟨none, .mv 6 (.t 18)⟩])
        ((.seq
         ((.seq
          (.reg false [⟨none, .mv 19 (.t 6)⟩,
            ⟨none, .mv 20 (.t 4)⟩,
            ⟨none, .beq 21 true (.t 19) (.t 20)⟩])
          (.cond (.t 21)
           ((.seq
            (.reg false [⟨none, .mv 2 (.c (.sc (.bool false)))⟩])
            (.ret)))
           (.skip))))
         ((.seq
          ((.seq
           (.reg true [⟨none, .ld 22 true 5 (.t 5)⟩,
             ⟨none, .ld 23 true 5 (.t 1)⟩,
             ⟨none, .call (some 24) 36 [(.t 23)]⟩,
             ⟨none, .call (some 25) 38 [(.t 22), (.t 24)]⟩,
             ⟨none, .un 26 .not (.t 25)⟩])
           (.cond (.t 26)
            ((.seq
             (.reg false [⟨none, .mv 2 (.c (.sc (.bool false)))⟩])
             (.ret)))
            (.skip))))
          ((.seq
           (.reg false [⟨none, .mv 2 (.c (.sc (.bool true)))⟩])
           (.ret))))))))))))))))))))
theorem res6 : resF Try.prog 6 = some (27, rc6, [.t 2]) := by kernel_rfl
def famBoolS : Fam Try.prog (eS 1 eB) 157 159 161 := famP mixed encB noB ⟨rfl, rfl, rfl⟩ (by omega) res157 res159 (eqL fun x y => x == y) (fun _ => eqL_refl fun _ _ => by simp) fun a b => af_eqB mixed res161 a b
theorem famBoolS_t (x) : famBoolS.t x = (some false, x.2) := rfl
def famBoolSS : Fam Try.prog (eS 1 (eS 1 eB)) 80 85 91 := famC mixed famBoolS (encS eB 1) ⟨rfl, rfl, rfl⟩ (by omega) res80 res85 res91
theorem famBoolSS_t (x) : famBoolSS.t x = (some false, x.2.map famBoolS.t) := rfl
def famInt64S : Fam Try.prog (eS 1 eI) 93 47 50 := famP mixed encI noI ⟨rfl, rfl, rfl⟩ (by omega) res93 res47 (eqL fun x y => x == y) (fun _ => eqL_refl fun _ _ => by simp) fun a b => af_eqS mixed res50 a b
theorem famInt64S_t (x) : famInt64S.t x = (some false, x.2) := rfl
def famInt64SS : Fam Try.prog (eS 1 (eS 1 eI)) 94 97 100 := famC mixed famInt64S (encS eI 1) ⟨rfl, rfl, rfl⟩ (by omega) res94 res97 res100
theorem famInt64SS_t (x) : famInt64SS.t x = (some false, x.2.map famInt64S.t) := rfl
def famInt64SSS : Fam Try.prog (eS 1 (eS 1 (eS 1 eI))) 103 105 107 := famC mixed famInt64SS (encS (eS 1 eI) 1) ⟨rfl, rfl, rfl⟩ (by omega) res103 res105 res107
theorem famInt64SSS_t (x) : famInt64SSS.t x = (some false, x.2.map famInt64SS.t) := rfl
def szCosts (m : Co) : Int → Int := fun l => nx (famBoolSS.s m.2.2.1 l) (fun l => nx (famInt64SSS.s m.2.2.2 l) (fun l => l))
def fitCosts (m : Co) : Prop := famBoolSS.fit m.2.2.1 ∧ famInt64SSS.fit m.2.2.2
def tCosts (m : Co) : Co := (m.1, m.2.1, famBoolSS.t m.2.2.1, famInt64SSS.t m.2.2.2)
def qCosts (a b : Co) : Bool := (qG a.1 b.1 && ((a.2.1 == b.2.1) && (famBoolSS.q a.2.2.1 b.2.2.1 && famInt64SSS.q a.2.2.2 b.2.2.2)))
theorem szCosts_in (m : Co) (l : Int) (h1 : 0 ≤ l) (h2 : l ≤ 1048576) : -1 ≤ szCosts m l ∧ szCosts m l ≤ l := by
  refine in_tr (Int.le_refl l) (nx_in (famBoolSS.s_in m.2.2.1 l h1 (by omega)) h1 (by omega) fun y0 a0 b0 => ?_)
  refine in_tr b0 (nx_in (famInt64SSS.s_in m.2.2.2 y0 a0 (by omega)) a0 (by omega) fun y1 a1 b1 => ?_)
  exact ⟨by omega, b1⟩
theorem szCosts_fit (m : Co) (l : Int) (h2 : l ≤ 1048576) (h1 : 0 ≤ l) (h : 0 ≤ szCosts m l) : fitCosts m := by
  obtain ⟨p0, h⟩ := nx_fit h
  have e0 := famBoolSS.s_fit m.2.2.1 l (by omega) h1 p0
  have b0 := famBoolSS.s_in m.2.2.1 l h1 (by omega)
  obtain ⟨p1, h⟩ := nx_fit h
  have e1 := famInt64SSS.s_fit m.2.2.2 _ (by omega) p0 p1
  have b1 := famInt64SSS.s_in m.2.2.2 (famBoolSS.s m.2.2.1 l) p0 (by omega)
  exact ⟨e0, e1⟩
theorem af34 (m : Co) (l : Int) (h1 : 0 ≤ l) (h2 : l ≤ 1048576) : AF Try.prog 34 [eCo m, eI l] (.own (eI (szCosts m l))) := by
  refine af_of_res res34 mixed rfl fun _ => ?_
  simp +contextual -implicitDefEqProofs only [rc34, eCo, eG, eS, go_sem, eI, eB, ↓reduceIte, Nat.reduceEqDiff, Nat.reduceAdd, Nat.reduceLeDiff, Nat.reduceMul, Nat.reduceBEq, Nat.reduceBneDiff, Nat.reduceLT, Nat.reduceSub, decide_true, decide_false, and_self, true_and, and_true, false_and, and_false, not_true_eq_false, not_false_eq_true, false_implies, true_implies, implies_true, ge_iff_le, Bool.false_eq_true, List.cons_append, List.nil_append]
  refine callQ_self ?_ (famBoolSS.afS m.2.2.1 l (by omega) (by omega)) ?_
  · exact rfl
  simp +contextual -implicitDefEqProofs only [eCo, eG, eS, go_sem, eI, eB, ↓reduceIte, Nat.reduceEqDiff, Nat.reduceAdd, Nat.reduceLeDiff, Nat.reduceMul, Nat.reduceBEq, Nat.reduceBneDiff, Nat.reduceLT, Nat.reduceSub, decide_true, decide_false, and_self, true_and, and_true, false_and, and_false, not_true_eq_false, not_false_eq_true, false_implies, true_implies, implies_true, ge_iff_le, Bool.false_eq_true, List.cons_append, List.nil_append]
  have b0 := famBoolSS.s_in m.2.2.1 l (by omega) (by omega)
  refine ⟨fun h => D.Le.sc_eq (by simp only [szCosts]; rw [nx_neg h]), fun g0 => ?_⟩
  refine callQ_self ?_ (famInt64SSS.afS m.2.2.2 (famBoolSS.s m.2.2.1 l) (by omega) (by omega)) ?_
  · exact rfl
  simp +contextual -implicitDefEqProofs only [eCo, eG, eS, go_sem, eI, eB, ↓reduceIte, Nat.reduceEqDiff, Nat.reduceAdd, Nat.reduceLeDiff, Nat.reduceMul, Nat.reduceBEq, Nat.reduceBneDiff, Nat.reduceLT, Nat.reduceSub, decide_true, decide_false, and_self, true_and, and_true, false_and, and_false, not_true_eq_false, not_false_eq_true, false_implies, true_implies, implies_true, ge_iff_le, Bool.false_eq_true, List.cons_append, List.nil_append]
  have b1 := famInt64SSS.s_in m.2.2.2 (famBoolSS.s m.2.2.1 l) (by omega) (by omega)
  refine ⟨fun h => D.Le.sc_eq (by simp only [szCosts]; rw [nx_pos g0, nx_neg h]), fun g1 => ?_⟩
  exact D.Le.sc_eq (by simp only [szCosts]; rw [nx_pos g0, nx_pos g1])
theorem af36 (m : Co) (h : fitCosts m) : AF Try.prog 36 [eCo m] (.own (eCo (tCosts m))) := by
  refine af_of_res res36 mixed rfl fun _ => ?_
  simp +contextual -implicitDefEqProofs only [rc36, eCo, eG, eS, tCosts, famBoolSS_t, famInt64SSS_t, go_sem, eI, eB, ↓reduceIte, Nat.reduceEqDiff, Nat.reduceAdd, Nat.reduceLeDiff, Nat.reduceMul, Nat.reduceBEq, Nat.reduceBneDiff, Nat.reduceLT, Nat.reduceSub, decide_true, decide_false, and_self, true_and, and_true, false_and, and_false, not_true_eq_false, not_false_eq_true, false_implies, true_implies, implies_true, ge_iff_le, Bool.false_eq_true, List.cons_append, List.nil_append]
  refine callQ_self ?_ (af23 m.1) ?_
  · exact rfl
  simp +contextual -implicitDefEqProofs only [eCo, eG, eS, tCosts, famBoolSS_t, famInt64SSS_t, go_sem, eI, eB, ↓reduceIte, Nat.reduceEqDiff, Nat.reduceAdd, Nat.reduceLeDiff, Nat.reduceMul, Nat.reduceBEq, Nat.reduceBneDiff, Nat.reduceLT, Nat.reduceSub, decide_true, decide_false, and_self, true_and, and_true, false_and, and_false, not_true_eq_false, not_false_eq_true, false_implies, true_implies, implies_true, ge_iff_le, Bool.false_eq_true, List.cons_append, List.nil_append]
  refine callQ_self ?_ (famBoolSS.afT m.2.2.1 h.1) ?_
  · exact rfl
  simp +contextual -implicitDefEqProofs only [eCo, eG, eS, tCosts, famBoolSS_t, famInt64SSS_t, go_sem, eI, eB, ↓reduceIte, Nat.reduceEqDiff, Nat.reduceAdd, Nat.reduceLeDiff, Nat.reduceMul, Nat.reduceBEq, Nat.reduceBneDiff, Nat.reduceLT, Nat.reduceSub, decide_true, decide_false, and_self, true_and, and_true, false_and, and_false, not_true_eq_false, not_false_eq_true, false_implies, true_implies, implies_true, ge_iff_le, Bool.false_eq_true, List.cons_append, List.nil_append]
  refine callQ_self ?_ (famInt64SSS.afT m.2.2.2 h.2) ?_
  · exact rfl
  simp +contextual -implicitDefEqProofs only [eCo, eG, eS, tCosts, famBoolSS_t, famInt64SSS_t, go_sem, eI, eB, ↓reduceIte, Nat.reduceEqDiff, Nat.reduceAdd, Nat.reduceLeDiff, Nat.reduceMul, Nat.reduceBEq, Nat.reduceBneDiff, Nat.reduceLT, Nat.reduceSub, decide_true, decide_false, and_self, true_and, and_true, false_and, and_false, not_true_eq_false, not_false_eq_true, false_implies, true_implies, implies_true, ge_iff_le, Bool.false_eq_true, List.cons_append, List.nil_append]
theorem af38 (a b : Co) : AF Try.prog 38 [eCo a, eCo b] (.own (eB (qCosts a b))) := by
  refine af_of_res res38 mixed rfl fun _ => ?_
  simp +contextual -implicitDefEqProofs only [rc38, qCosts, bne, Bool.not_true, Bool.not_false, Bool.true_and, Bool.false_and, Bool.and_true, Bool.and_false, eCo, eG, eS, go_sem, eI, eB, ↓reduceIte, Nat.reduceEqDiff, Nat.reduceAdd, Nat.reduceLeDiff, Nat.reduceMul, Nat.reduceBEq, Nat.reduceBneDiff, Nat.reduceLT, Nat.reduceSub, decide_true, decide_false, and_self, true_and, and_true, false_and, and_false, not_true_eq_false, not_false_eq_true, false_implies, true_implies, implies_true, ge_iff_le, Bool.false_eq_true, List.cons_append, List.nil_append]
  refine callQ_self ?_ (af90 a.1 b.1) ?_
  · exact rfl
  cases e0 : qG a.1 b.1
  · simp +contextual -implicitDefEqProofs only [qCosts, bne, Bool.not_true, Bool.not_false, Bool.true_and, Bool.false_and, Bool.and_true, Bool.and_false, eCo, eG, eS, e0, go_sem, eI, eB, ↓reduceIte, Nat.reduceEqDiff, Nat.reduceAdd, Nat.reduceLeDiff, Nat.reduceMul, Nat.reduceBEq, Nat.reduceBneDiff, Nat.reduceLT, Nat.reduceSub, decide_true, decide_false, and_self, true_and, and_true, false_and, and_false, not_true_eq_false, not_false_eq_true, false_implies, true_implies, implies_true, ge_iff_le, Bool.false_eq_true, List.cons_append, List.nil_append]
  cases e1 : (a.2.1 == b.2.1)
  · simp +contextual -implicitDefEqProofs only [qCosts, bne, Bool.not_true, Bool.not_false, Bool.true_and, Bool.false_and, Bool.and_true, Bool.and_false, eCo, eG, eS, e0, e1, go_sem, eI, eB, ↓reduceIte, Nat.reduceEqDiff, Nat.reduceAdd, Nat.reduceLeDiff, Nat.reduceMul, Nat.reduceBEq, Nat.reduceBneDiff, Nat.reduceLT, Nat.reduceSub, decide_true, decide_false, and_self, true_and, and_true, false_and, and_false, not_true_eq_false, not_false_eq_true, false_implies, true_implies, implies_true, ge_iff_le, Bool.false_eq_true, List.cons_append, List.nil_append]
  simp +contextual -implicitDefEqProofs only [qCosts, bne, Bool.not_true, Bool.not_false, Bool.true_and, Bool.false_and, Bool.and_true, Bool.and_false, eCo, eG, eS, e0, e1, go_sem, eI, eB, ↓reduceIte, Nat.reduceEqDiff, Nat.reduceAdd, Nat.reduceLeDiff, Nat.reduceMul, Nat.reduceBEq, Nat.reduceBneDiff, Nat.reduceLT, Nat.reduceSub, decide_true, decide_false, and_self, true_and, and_true, false_and, and_false, not_true_eq_false, not_false_eq_true, false_implies, true_implies, implies_true, ge_iff_le, Bool.false_eq_true, List.cons_append, List.nil_append]
  refine callQ_self ?_ (famBoolSS.afQ a.2.2.1 b.2.2.1) ?_
  · exact rfl
  cases e2 : famBoolSS.q a.2.2.1 b.2.2.1
  · simp +contextual -implicitDefEqProofs only [qCosts, bne, Bool.not_true, Bool.not_false, Bool.true_and, Bool.false_and, Bool.and_true, Bool.and_false, eCo, eG, eS, e0, e1, e2, go_sem, eI, eB, ↓reduceIte, Nat.reduceEqDiff, Nat.reduceAdd, Nat.reduceLeDiff, Nat.reduceMul, Nat.reduceBEq, Nat.reduceBneDiff, Nat.reduceLT, Nat.reduceSub, decide_true, decide_false, and_self, true_and, and_true, false_and, and_false, not_true_eq_false, not_false_eq_true, false_implies, true_implies, implies_true, ge_iff_le, Bool.false_eq_true, List.cons_append, List.nil_append]
  simp +contextual -implicitDefEqProofs only [qCosts, bne, Bool.not_true, Bool.not_false, Bool.true_and, Bool.false_and, Bool.and_true, Bool.and_false, eCo, eG, eS, e0, e1, e2, go_sem, eI, eB, ↓reduceIte, Nat.reduceEqDiff, Nat.reduceAdd, Nat.reduceLeDiff, Nat.reduceMul, Nat.reduceBEq, Nat.reduceBneDiff, Nat.reduceLT, Nat.reduceSub, decide_true, decide_false, and_self, true_and, and_true, false_and, and_false, not_true_eq_false, not_false_eq_true, false_implies, true_implies, implies_true, ge_iff_le, Bool.false_eq_true, List.cons_append, List.nil_append]
  refine callQ_self ?_ (famInt64SSS.afQ a.2.2.2 b.2.2.2) ?_
  · exact rfl
  cases e3 : famInt64SSS.q a.2.2.2 b.2.2.2
  · simp +contextual -implicitDefEqProofs only [qCosts, bne, Bool.not_true, Bool.not_false, Bool.true_and, Bool.false_and, Bool.and_true, Bool.and_false, eCo, eG, eS, e0, e1, e2, e3, go_sem, eI, eB, ↓reduceIte, Nat.reduceEqDiff, Nat.reduceAdd, Nat.reduceLeDiff, Nat.reduceMul, Nat.reduceBEq, Nat.reduceBneDiff, Nat.reduceLT, Nat.reduceSub, decide_true, decide_false, and_self, true_and, and_true, false_and, and_false, not_true_eq_false, not_false_eq_true, false_implies, true_implies, implies_true, ge_iff_le, Bool.false_eq_true, List.cons_append, List.nil_append]
  · simp +contextual -implicitDefEqProofs only [qCosts, bne, Bool.not_true, Bool.not_false, Bool.true_and, Bool.false_and, Bool.and_true, Bool.and_false, eCo, eG, eS, e0, e1, e2, e3, go_sem, eI, eB, ↓reduceIte, Nat.reduceEqDiff, Nat.reduceAdd, Nat.reduceLeDiff, Nat.reduceMul, Nat.reduceBEq, Nat.reduceBneDiff, Nat.reduceLT, Nat.reduceSub, decide_true, decide_false, and_self, true_and, and_true, false_and, and_false, not_true_eq_false, not_false_eq_true, false_implies, true_implies, implies_true, ge_iff_le, Bool.false_eq_true, List.cons_append, List.nil_append]
theorem qCosts_refl (m : Co) : qCosts m m = true := by simp [qCosts, qG, famBoolSS.q_refl, famInt64SSS.q_refl]
noncomputable def famCosts : Fam Try.prog eCo 34 36 38 := ⟨szCosts, tCosts, qCosts, fitCosts, szCosts_in, szCosts_fit, qCosts_refl, af34, af36, af38⟩
theorem famCosts_t (x) : famCosts.t x = tCosts x := rfl
theorem law (m : Co) : AF Try.prog 6 [eCo m] (.own (eB true)) := by
  refine af_of_res res6 mixed rfl fun hbd => ?_
  simp +contextual -implicitDefEqProofs only [rc6, eG, eCo, eS, famCosts_t, tCosts, famBoolSS_t, famInt64SSS_t, bne_self_eq_false, go_sem, eI, eB, ↓reduceIte, Nat.reduceEqDiff, Nat.reduceAdd, Nat.reduceLeDiff, Nat.reduceMul, Nat.reduceBEq, Nat.reduceBneDiff, Nat.reduceLT, Nat.reduceSub, decide_true, decide_false, and_self, true_and, and_true, false_and, and_false, not_true_eq_false, not_false_eq_true, false_implies, true_implies, implies_true, ge_iff_le, Bool.false_eq_true, List.cons_append, List.nil_append]
  refine callQ_self ?_ (famCosts.afS m 1048576 (by omega) (by omega)) ?_
  · exact rfl
  simp +contextual -implicitDefEqProofs only [eG, eCo, eS, famCosts_t, tCosts, famBoolSS_t, famInt64SSS_t, bne_self_eq_false, go_sem, eI, eB, ↓reduceIte, Nat.reduceEqDiff, Nat.reduceAdd, Nat.reduceLeDiff, Nat.reduceMul, Nat.reduceBEq, Nat.reduceBneDiff, Nat.reduceLT, Nat.reduceSub, decide_true, decide_false, and_self, true_and, and_true, false_and, and_false, not_true_eq_false, not_false_eq_true, false_implies, true_implies, implies_true, ge_iff_le, Bool.false_eq_true, List.cons_append, List.nil_append]
  have sb0 := famCosts.s_in m 1048576 (by omega) (by omega)
  refine fun hs0 => ?_
  have hf0 := famCosts.s_fit m 1048576 (by omega) (by omega) (by omega)
  refine callQ_self ?_ (famCosts.afT m hf0) ?_
  · exact rfl
  simp +contextual -implicitDefEqProofs only [eG, eCo, eS, famCosts_t, tCosts, famBoolSS_t, famInt64SSS_t, bne_self_eq_false, go_sem, eI, eB, ↓reduceIte, Nat.reduceEqDiff, Nat.reduceAdd, Nat.reduceLeDiff, Nat.reduceMul, Nat.reduceBEq, Nat.reduceBneDiff, Nat.reduceLT, Nat.reduceSub, decide_true, decide_false, and_self, true_and, and_true, false_and, and_false, not_true_eq_false, not_false_eq_true, false_implies, true_implies, implies_true, ge_iff_le, Bool.false_eq_true, List.cons_append, List.nil_append]
  refine callQ_self ?_ (af35 (famCosts.t m)) ?_
  · exact rfl
  simp +contextual -implicitDefEqProofs only [eG, eCo, eS, famCosts_t, tCosts, famBoolSS_t, famInt64SSS_t, bne_self_eq_false, go_sem, eI, eB, ↓reduceIte, Nat.reduceEqDiff, Nat.reduceAdd, Nat.reduceLeDiff, Nat.reduceMul, Nat.reduceBEq, Nat.reduceBneDiff, Nat.reduceLT, Nat.reduceSub, decide_true, decide_false, and_self, true_and, and_true, false_and, and_false, not_true_eq_false, not_false_eq_true, false_implies, true_implies, implies_true, ge_iff_le, Bool.false_eq_true, List.cons_append, List.nil_append]
  refine callQ_self ?_ (famCosts.afT m hf0) ?_
  · exact rfl
  simp +contextual -implicitDefEqProofs only [eG, eCo, eS, famCosts_t, tCosts, famBoolSS_t, famInt64SSS_t, bne_self_eq_false, go_sem, eI, eB, ↓reduceIte, Nat.reduceEqDiff, Nat.reduceAdd, Nat.reduceLeDiff, Nat.reduceMul, Nat.reduceBEq, Nat.reduceBneDiff, Nat.reduceLT, Nat.reduceSub, decide_true, decide_false, and_self, true_and, and_true, false_and, and_false, not_true_eq_false, not_false_eq_true, false_implies, true_implies, implies_true, ge_iff_le, Bool.false_eq_true, List.cons_append, List.nil_append]
  refine callQ_self ?_ (af37 (famCosts.t m)) ?_
  · exact rfl
  simp +contextual -implicitDefEqProofs only [eG, eCo, eS, famCosts_t, tCosts, famBoolSS_t, famInt64SSS_t, bne_self_eq_false, go_sem, eI, eB, ↓reduceIte, Nat.reduceEqDiff, Nat.reduceAdd, Nat.reduceLeDiff, Nat.reduceMul, Nat.reduceBEq, Nat.reduceBneDiff, Nat.reduceLT, Nat.reduceSub, decide_true, decide_false, and_self, true_and, and_true, false_and, and_false, not_true_eq_false, not_false_eq_true, false_implies, true_implies, implies_true, ge_iff_le, Bool.false_eq_true, List.cons_append, List.nil_append]
  refine callQ_self ?_ (famCosts.afT m hf0) ?_
  · exact rfl
  simp +contextual -implicitDefEqProofs only [eG, eCo, eS, famCosts_t, tCosts, famBoolSS_t, famInt64SSS_t, bne_self_eq_false, go_sem, eI, eB, ↓reduceIte, Nat.reduceEqDiff, Nat.reduceAdd, Nat.reduceLeDiff, Nat.reduceMul, Nat.reduceBEq, Nat.reduceBneDiff, Nat.reduceLT, Nat.reduceSub, decide_true, decide_false, and_self, true_and, and_true, false_and, and_false, not_true_eq_false, not_false_eq_true, false_implies, true_implies, implies_true, ge_iff_le, Bool.false_eq_true, List.cons_append, List.nil_append]
  refine callQ_self ?_ (famCosts.afQ (famCosts.t m) (famCosts.t m)) ?_
  · exact rfl
  simp +contextual -implicitDefEqProofs only [famCosts.q_refl, Bool.not_true, eG, eCo, eS, famCosts_t, tCosts, famBoolSS_t, famInt64SSS_t, bne_self_eq_false, go_sem, eI, eB, ↓reduceIte, Nat.reduceEqDiff, Nat.reduceAdd, Nat.reduceLeDiff, Nat.reduceMul, Nat.reduceBEq, Nat.reduceBneDiff, Nat.reduceLT, Nat.reduceSub, decide_true, decide_false, and_self, true_and, and_true, false_and, and_false, not_true_eq_false, not_false_eq_true, false_implies, true_implies, implies_true, ge_iff_le, Bool.false_eq_true, List.cons_append, List.nil_append]
end Go.Ax
