/- Contracts of functions of the seat, proved over the engine. No condition. -/
import Derived.Test.YtcklakmblpkbnaaAxE
import Derived.Test.YtcklakmblpkbnaaChecked
namespace Go.Ax
open Go.Proofs
set_option linter.unusedSimpArgs false
theorem mixed : Try.prog.follows .mixedOrders = true := by kernel_rfl
theorem res157 : resF Try.prog 157 = some (12, cSzP, [.t 4]) := by kernel_rfl
theorem res80 : resF Try.prog 80 = some (27, cSzC 157 1 false, [.t 4]) := by kernel_rfl
theorem res81 : resF Try.prog 81 = some (27, cSzC 80 1 false, [.t 4]) := by kernel_rfl

def rc15 : RC :=
 (.seq
  (.reg false [⟨none, .box 2 5 (.t 0)⟩,
    ⟨none, .mv 4 (.c (.sc (.int .i64 0)))⟩])
  ((.seq
   (.reg false [⟨none, .fa 5 3 (.t 2)⟩,
     ⟨none, .ld 6 false 1 (.t 5)⟩,
     ⟨none, .mv 7 (.t 1)⟩,
     ⟨none, .call (some 8) 80 [(.t 6), (.t 7)]⟩,
     ⟨none, .mv 1 (.t 8)⟩])
   ((.seq
    ((.seq
     (.reg false [⟨none, .mv 9 (.t 1)⟩,
       ⟨none, .bin 10 .lss (.t 9) (.c (.sc (.int .i64 0)))⟩])
     (.cond (.t 10)
      ((.seq
       (.reg false [⟨none, .mv 4 (.c (.sc (.int .i64 (-1))))⟩])
       (.ret)))
      (.skip))))
    ((.seq
     (.reg false [⟨none, .fa 11 4 (.t 2)⟩,
       ⟨none, .ld 12 false 1 (.t 11)⟩,
       ⟨none, .mv 13 (.t 1)⟩,
       ⟨none, .call (some 14) 81 [(.t 12), (.t 13)]⟩,
       ⟨none, .mv 1 (.t 14)⟩])
     ((.seq
      ((.seq
       (.reg false [⟨none, .mv 15 (.t 1)⟩,
         ⟨none, .bin 16 .lss (.t 15) (.c (.sc (.int .i64 0)))⟩])
       (.cond (.t 16)
        ((.seq
         (.reg false [⟨none, .mv 4 (.c (.sc (.int .i64 (-1))))⟩])
         (.ret)))
        (.skip))))
      ((.seq
       (.reg false [⟨none, .mv 17 (.t 1)⟩,
         ⟨none, .mv 4 (.t 17)⟩])
       (.ret))))))))))))
theorem res15 : resF Try.prog 15 = some (18, rc15, [.t 4]) := by kernel_rfl
theorem res23 : resF Try.prog 23 = some (11, k_toSig, [.c 2 2 true]) := by kernel_rfl
theorem af23 : K_toSig Try.prog 23 := a_toSig mixed res23
theorem res159 : resF Try.prog 159 = some (22, cToS 1 (.sc (.bool false)), [.t 2]) := by kernel_rfl
theorem res85 : resF Try.prog 85 = some (23, cToC 159 1 24 false (.ls (some true) 1 []), [.t 2]) := by kernel_rfl
theorem res86 : resF Try.prog 86 = some (23, cToC 85 1 24 false (.ls (some true) 1 []), [.t 2]) := by kernel_rfl

def rc17 : RC :=
 (.seq
  (.reg false [⟨none, .box 1 5 (.t 0)⟩,
    ⟨none, .zer 2 5 (.ag [(.sc (.int .i64 0)), (.sc (.int .i64 0)), (.sc (.int .i64 0)), (.ls (some true) 1 []), (.ls (some true) 1 [])])⟩])
  ((.seq
   (.reg false [⟨none, .zer 3 5 (.ag [(.sc (.int .i64 0)), (.sc (.int .i64 0)), (.sc (.int .i64 0)), (.ls (some true) 1 []), (.ls (some true) 1 [])])⟩])
   ((.seq
    (.reg false [⟨none, .fa 4 0 (.t 1)⟩,
      ⟨none, .ld 5 true 2 (.t 4)⟩,
      ⟨none, .call (some 6) 23 [(.t 5)]⟩,
      ⟨none, .fa 7 0 (.t 3)⟩,
      ⟨none, .st 2 (.t 7) (.t 6)⟩])
    ((.seq
     (.reg false [⟨none, .fa 8 2 (.t 1)⟩,
       ⟨none, .ld 9 false 1 (.t 8)⟩,
       ⟨none, .fa 10 2 (.t 3)⟩,
       ⟨none, .st 1 (.t 10) (.t 9)⟩])
     ((.seq
      (.reg false [⟨none, .fa 11 3 (.t 1)⟩,
        ⟨none, .ld 12 false 1 (.t 11)⟩,
        ⟨none, .call (some 13) 85 [(.t 12)]⟩,
        ⟨none, .fa 14 3 (.t 3)⟩,
        ⟨none, .st 1 (.t 14) (.t 13)⟩])
      ((.seq
       (.reg false [⟨none, .fa 15 4 (.t 1)⟩,
         ⟨none, .ld 16 false 1 (.t 15)⟩,
         ⟨none, .call (some 17) 86 [(.t 16)]⟩,
         ⟨none, .fa 18 4 (.t 3)⟩,
         ⟨none, .st 1 (.t 18) (.t 17)⟩])
       ((.seq
        (.reg false [⟨none, .ld 19 true 5 (.t 3)⟩,
          ⟨none, .st 5 (.t 2) (.t 19)⟩])
        (.ret))))))))))))))
theorem res17 : resF Try.prog 17 = some (20, rc17, [.c 2 5 true]) := by kernel_rfl
theorem res83 : resF Try.prog 83 = some (15, k_l00In, [.t 6]) := by kernel_rfl
theorem af83 : K_l00In Try.prog 83 := a_l00In mixed res83
theorem res162 : resF Try.prog 162 = some (11, k_l01Sig 83, [.t 2]) := by kernel_rfl
theorem af162 : K_l01Sig Try.prog 162 := a_l01Sig mixed res162 af83
theorem res158 : resF Try.prog 158 = some (36, k_l05Tests 162 83, [.t 6]) := by kernel_rfl
theorem af158 : K_l05Tests Try.prog 158 := a_l05Tests mixed res158 af162 af83
theorem res82 : resF Try.prog 82 = some (82, k_l05Ok 158, [.t 2]) := by kernel_rfl
theorem af82 : K_l05Ok Try.prog 82 := a_l05Ok mixed res82 af158
theorem res84 : resF Try.prog 84 = some (26, k_l05Atom, [.t 4]) := by kernel_rfl
theorem af84 : K_l05Atom Try.prog 84 := a_l05Atom mixed res84
theorem res16 : resF Try.prog 16 = some (18, k_spAtomOf 82 83 84, [.t 4, .t 5]) := by kernel_rfl
theorem af16 : K_spAtomOf Try.prog 16 := a_spAtomOf mixed res16 af82 af83 af84
theorem res88 : resF Try.prog 88 = some (15, k_within, [.t 6]) := by kernel_rfl
theorem af88 : K_within Try.prog 88 := a_within mixed res88
theorem res129 : resF Try.prog 129 = some (11, k_validSig 88, [.t 2]) := by kernel_rfl
theorem af129 : K_validSig Try.prog 129 := a_validSig mixed res129 af88
theorem res168 : resF Try.prog 168 = some (24, k_isTableB, [.t 6]) := by kernel_rfl
theorem af168 : K_isTableB Try.prog 168 := a_isTableB mixed res168
theorem res160 : resF Try.prog 160 = some (46, k_isFrameB 129 88 168, [.t 8]) := by kernel_rfl
theorem af160 : K_isFrameB Try.prog 160 := a_isFrameB mixed res160 af129 af88 af168
theorem res87 : resF Try.prog 87 = some (12, k_validModel 160, [.t 2]) := by kernel_rfl
theorem af87 : K_validModel Try.prog 87 := a_validModel mixed res87 af160
theorem res89 : resF Try.prog 89 = some (26, k_atomOf, [.t 4]) := by kernel_rfl
theorem af89 : K_atomOf Try.prog 89 := a_atomOf mixed res89
theorem res18 : resF Try.prog 18 = some (18, k_imAtomOf 87 88 89, [.t 4, .t 5]) := by kernel_rfl
theorem af18 : K_imAtomOf Try.prog 18 := a_imAtomOf mixed res18 af87 af88 af89
theorem res90 : resF Try.prog 90 = some (15, k_eqSig, [.t 4]) := by kernel_rfl
theorem af90 : K_eqSig Try.prog 90 := a_eqSig mixed res90
theorem res161 : resF Try.prog 161 = some (26, cEqB, [.t 4]) := by kernel_rfl
theorem res91 : resF Try.prog 91 = some (27, cEqC 161 1 false, [.t 4]) := by kernel_rfl
theorem res92 : resF Try.prog 92 = some (27, cEqC 91 1 false, [.t 4]) := by kernel_rfl

def rc19 : RC :=
 (.seq
  (.reg false [⟨none, .box 2 5 (.t 0)⟩,
    ⟨none, .box 3 5 (.t 1)⟩,
    ⟨none, .mv 4 (.c (.sc (.bool false)))⟩])
  ((.seq
   ((.seq
    (.reg false [⟨none, .fa 5 0 (.t 2)⟩,
      ⟨none, .ld 6 true 2 (.t 5)⟩,
      ⟨none, .fa 7 0 (.t 3)⟩,
      ⟨none, .ld 8 true 2 (.t 7)⟩,
      ⟨none, .call (some 9) 90 [(.t 6), (.t 8)]⟩,
      ⟨none, .un 10 .not (.t 9)⟩])
    (.cond (.t 10)
     ((.seq
      (.reg false [⟨none, .mv 4 (.c (.sc (.bool false)))⟩])
      (.ret)))
     (.skip))))
   ((.seq
    ((.seq
     (.reg false [⟨none, .fa 11 2 (.t 2)⟩,
       ⟨none, .ld 12 false 1 (.t 11)⟩,
       ⟨none, .fa 13 2 (.t 3)⟩,
       ⟨none, .ld 14 false 1 (.t 13)⟩,
       ⟨none, .bin 15 .neq (.t 12) (.t 14)⟩])
     (.cond (.t 15)
      ((.seq
       (.reg false [⟨none, .mv 4 (.c (.sc (.bool false)))⟩])
       (.ret)))
      (.skip))))
    ((.seq
     ((.seq
      (.reg false [⟨none, .fa 16 3 (.t 2)⟩,
        ⟨none, .ld 17 false 1 (.t 16)⟩,
        ⟨none, .fa 18 3 (.t 3)⟩,
        ⟨none, .ld 19 false 1 (.t 18)⟩,
        ⟨none, .call (some 20) 91 [(.t 17), (.t 19)]⟩,
        ⟨none, .un 21 .not (.t 20)⟩])
      (.cond (.t 21)
       ((.seq
        (.reg false [⟨none, .mv 4 (.c (.sc (.bool false)))⟩])
        (.ret)))
       (.skip))))
     ((.seq
      ((.seq
       (.reg false [⟨none, .fa 22 4 (.t 2)⟩,
         ⟨none, .ld 23 false 1 (.t 22)⟩,
         ⟨none, .fa 24 4 (.t 3)⟩,
         ⟨none, .ld 25 false 1 (.t 24)⟩,
         ⟨none, .call (some 26) 92 [(.t 23), (.t 25)]⟩,
         ⟨none, .un 27 .not (.t 26)⟩])
       (.cond (.t 27)
        ((.seq
         (.reg false [⟨none, .mv 4 (.c (.sc (.bool false)))⟩])
         (.ret)))
        (.skip))))
      ((.seq
       (.reg false [⟨none, .mv 4 (.c (.sc (.bool true)))⟩])
       (.ret))))))))))))
theorem res19 : resF Try.prog 19 = some (28, rc19, [.t 4]) := by kernel_rfl

def rc3 : RC :=
 (.seq
  (.reg false [⟨none, .box 2 5 (.t 0)⟩,
    ⟨none, .mv 4 (.c (.sc (.bool false)))⟩])
  ((.seq
   (.reg false [⟨none, .mv 5 (.c (.sc (.int .i64 1048576)))⟩])
   ((.seq
    (.reg false [⟨none, .ld 11 true 5 (.t 2)⟩,
      ⟨none, .mv 12 (.t 5)⟩,
      ⟨none, .call (some 13) 15 [(.t 11), (.t 12)]⟩,
      ⟨none, .mv 5 (.t 13)⟩])
    ((.seq
     ((.seq
      (.reg false [⟨none, .mv 14 (.t 5)⟩,
        ⟨none, .bin 15 .lss (.t 14) (.c (.sc (.int .i64 0)))⟩])
      (.cond (.t 15)
       ((.seq
        (.reg false [⟨none, .mv 4 (.c (.sc (.bool true)))⟩])
        (.ret)))
       (.skip))))
     ((.seq
      (.reg false [⟨none, .ld 17 true 5 (.t 2)⟩,
        ⟨none, .call (some 18) 17 [(.t 17)]⟩,
        ⟨none, .mv 19 (.t 1)⟩,
        ⟨none, .call (some 20) 16 [(.t 18), (.t 19)]⟩,
        ⟨none, .mv 16 (.t 20)⟩,
        ⟨none, .ext 21 (.t 16) 0⟩,
        ⟨none, .ext 22 (.t 16) 1⟩,
        ⟨none, .mv 6 (.t 21)⟩,
        ⟨none, .mv 7 (.t 22)⟩])
      ((.seq
       (.reg false [⟨none, .ld 23 true 5 (.t 2)⟩,
         ⟨none, .call (some 24) 17 [(.t 23)]⟩,
         ⟨none, .zer 8 5 (.ag [(.sc (.int .i64 0)), (.sc (.int .i64 0)), (.sc (.int .i64 0)), (.ls (some true) 1 []), (.ls (some true) 1 [])])⟩,
         ⟨none, .st 5 (.t 8) (.t 24)⟩])
       ((.seq
        (.reg false [⟨none, .ld 26 true 5 (.t 8)⟩,
          ⟨none, .mv 27 (.t 1)⟩,
          ⟨none, .call (some 28) 18 [(.t 26), (.t 27)]⟩,
          ⟨none, .mv 25 (.t 28)⟩,
          ⟨none, .ext 29 (.t 25) 0⟩,
          ⟨none, .ext 30 (.t 25) 1⟩,
          ⟨none, .mv 9 (.t 29)⟩,
          ⟨none, .mv 10 (.t 30)⟩])
        ((.seq
         ((.seq
          (.reg false [⟨none, .mv 31 (.t 9)⟩,
            ⟨none, .mv 32 (.t 6)⟩,
            ⟨none, .bin 33 .neq (.t 31) (.t 32)⟩,
            ⟨none, .mv 34 (.t 33)⟩,
            ⟨some (34, false), .mv 35 (.t 10)⟩,
            ⟨some (34, false), .mv 36 (.t 7)⟩,
            ⟨some (34, false), .bin 37 .neq (.t 35) (.t 36)⟩,
            ⟨none, .pick 38 (.t 34) (.c (.sc (.bool true))) (.t 37)⟩])
          (.cond (.t 38)
           ((.seq
            (.reg false [⟨none, .mv 4 (.c (.sc (.bool false)))⟩])
            (.ret)))
           (.skip))))
         ((.seq
          ((.seq
           (.reg true [⟨none, .ld 39 true 5 (.t 8)⟩,
             ⟨none, .ld 40 true 5 (.t 2)⟩,
             ⟨none, .call (some 41) 17 [(.t 40)]⟩,
             ⟨none, .call (some 42) 19 [(.t 39), (.t 41)]⟩,
             ⟨none, .un 43 .not (.t 42)⟩])
           (.cond (.t 43)
            ((.seq
             (.reg false [⟨none, .mv 4 (.c (.sc (.bool false)))⟩])
             (.ret)))
            (.skip))))
          ((.seq
           (.reg false [⟨none, .mv 4 (.c (.sc (.bool true)))⟩])
           (.ret))))))))))))))))))))
theorem res3 : resF Try.prog 3 = some (44, rc3, [.t 4]) := by kernel_rfl
def famBoolS : Fam Try.prog (eS 1 eB) 157 159 161 := famP mixed encB noB ⟨rfl, rfl, rfl⟩ (by omega) res157 res159 (eqL fun x y => x == y) (fun _ => eqL_refl fun _ _ => by simp) fun a b => af_eqB mixed res161 a b
theorem famBoolS_t (x) : famBoolS.t x = (some false, x.2) := rfl
def famBoolSS : Fam Try.prog (eS 1 (eS 1 eB)) 80 85 91 := famC mixed famBoolS (encS eB 1) ⟨rfl, rfl, rfl⟩ (by omega) res80 res85 res91
theorem famBoolSS_t (x) : famBoolSS.t x = (some false, x.2.map famBoolS.t) := rfl
def famBoolSSS : Fam Try.prog (eS 1 (eS 1 (eS 1 eB))) 81 86 92 := famC mixed famBoolSS (encS (eS 1 eB) 1) ⟨rfl, rfl, rfl⟩ (by omega) res81 res86 res92
theorem famBoolSSS_t (x) : famBoolSSS.t x = (some false, x.2.map famBoolSS.t) := rfl
def szModel (m : Mo) : Int → Int := fun l => nx (famBoolSS.s m.2.2.1 l) (fun l => nx (famBoolSSS.s m.2.2.2 l) (fun l => l))
def fitModel (m : Mo) : Prop := famBoolSS.fit m.2.2.1 ∧ famBoolSSS.fit m.2.2.2
def tModel (m : Mo) : Mo := (m.1, m.2.1, famBoolSS.t m.2.2.1, famBoolSSS.t m.2.2.2)
def qModel (a b : Mo) : Bool := (qG a.1 b.1 && ((a.2.1 == b.2.1) && (famBoolSS.q a.2.2.1 b.2.2.1 && famBoolSSS.q a.2.2.2 b.2.2.2)))
theorem szModel_in (m : Mo) (l : Int) (h1 : 0 ≤ l) (h2 : l ≤ 1048576) : -1 ≤ szModel m l ∧ szModel m l ≤ l := by
  refine in_tr (Int.le_refl l) (nx_in (famBoolSS.s_in m.2.2.1 l h1 (by omega)) h1 (by omega) fun y0 a0 b0 => ?_)
  refine in_tr b0 (nx_in (famBoolSSS.s_in m.2.2.2 y0 a0 (by omega)) a0 (by omega) fun y1 a1 b1 => ?_)
  exact ⟨by omega, b1⟩
theorem szModel_fit (m : Mo) (l : Int) (h2 : l ≤ 1048576) (h1 : 0 ≤ l) (h : 0 ≤ szModel m l) : fitModel m := by
  obtain ⟨p0, h⟩ := nx_fit h
  have e0 := famBoolSS.s_fit m.2.2.1 l (by omega) h1 p0
  have b0 := famBoolSS.s_in m.2.2.1 l h1 (by omega)
  obtain ⟨p1, h⟩ := nx_fit h
  have e1 := famBoolSSS.s_fit m.2.2.2 _ (by omega) p0 p1
  have b1 := famBoolSSS.s_in m.2.2.2 (famBoolSS.s m.2.2.1 l) p0 (by omega)
  exact ⟨e0, e1⟩
theorem af15 (m : Mo) (l : Int) (h1 : 0 ≤ l) (h2 : l ≤ 1048576) : AF Try.prog 15 [eM m, eI l] (.own (eI (szModel m l))) := by
  refine af_of_res res15 mixed rfl fun _ => ?_
  simp +contextual -implicitDefEqProofs only [rc15, eM, eG, eS, go_sem, eI, eB, ↓reduceIte, Nat.reduceEqDiff, Nat.reduceAdd, Nat.reduceLeDiff, Nat.reduceMul, Nat.reduceBEq, Nat.reduceBneDiff, Nat.reduceLT, Nat.reduceSub, decide_true, decide_false, and_self, true_and, and_true, false_and, and_false, not_true_eq_false, not_false_eq_true, false_implies, true_implies, implies_true, ge_iff_le, Bool.false_eq_true, List.cons_append, List.nil_append]
  refine callQ_self ?_ (famBoolSS.afS m.2.2.1 l (by omega) (by omega)) ?_
  · exact rfl
  simp +contextual -implicitDefEqProofs only [eM, eG, eS, go_sem, eI, eB, ↓reduceIte, Nat.reduceEqDiff, Nat.reduceAdd, Nat.reduceLeDiff, Nat.reduceMul, Nat.reduceBEq, Nat.reduceBneDiff, Nat.reduceLT, Nat.reduceSub, decide_true, decide_false, and_self, true_and, and_true, false_and, and_false, not_true_eq_false, not_false_eq_true, false_implies, true_implies, implies_true, ge_iff_le, Bool.false_eq_true, List.cons_append, List.nil_append]
  have b0 := famBoolSS.s_in m.2.2.1 l (by omega) (by omega)
  refine ⟨fun h => D.Le.sc_eq (by simp only [szModel]; rw [nx_neg h]), fun g0 => ?_⟩
  refine callQ_self ?_ (famBoolSSS.afS m.2.2.2 (famBoolSS.s m.2.2.1 l) (by omega) (by omega)) ?_
  · exact rfl
  simp +contextual -implicitDefEqProofs only [eM, eG, eS, go_sem, eI, eB, ↓reduceIte, Nat.reduceEqDiff, Nat.reduceAdd, Nat.reduceLeDiff, Nat.reduceMul, Nat.reduceBEq, Nat.reduceBneDiff, Nat.reduceLT, Nat.reduceSub, decide_true, decide_false, and_self, true_and, and_true, false_and, and_false, not_true_eq_false, not_false_eq_true, false_implies, true_implies, implies_true, ge_iff_le, Bool.false_eq_true, List.cons_append, List.nil_append]
  have b1 := famBoolSSS.s_in m.2.2.2 (famBoolSS.s m.2.2.1 l) (by omega) (by omega)
  refine ⟨fun h => D.Le.sc_eq (by simp only [szModel]; rw [nx_pos g0, nx_neg h]), fun g1 => ?_⟩
  exact D.Le.sc_eq (by simp only [szModel]; rw [nx_pos g0, nx_pos g1])
theorem af17 (m : Mo) (h : fitModel m) : AF Try.prog 17 [eM m] (.own (eM (tModel m))) := by
  refine af_of_res res17 mixed rfl fun _ => ?_
  simp +contextual -implicitDefEqProofs only [rc17, eM, eG, eS, tModel, famBoolSS_t, famBoolSSS_t, go_sem, eI, eB, ↓reduceIte, Nat.reduceEqDiff, Nat.reduceAdd, Nat.reduceLeDiff, Nat.reduceMul, Nat.reduceBEq, Nat.reduceBneDiff, Nat.reduceLT, Nat.reduceSub, decide_true, decide_false, and_self, true_and, and_true, false_and, and_false, not_true_eq_false, not_false_eq_true, false_implies, true_implies, implies_true, ge_iff_le, Bool.false_eq_true, List.cons_append, List.nil_append]
  refine callQ_self ?_ (af23 m.1) ?_
  · exact rfl
  simp +contextual -implicitDefEqProofs only [eM, eG, eS, tModel, famBoolSS_t, famBoolSSS_t, go_sem, eI, eB, ↓reduceIte, Nat.reduceEqDiff, Nat.reduceAdd, Nat.reduceLeDiff, Nat.reduceMul, Nat.reduceBEq, Nat.reduceBneDiff, Nat.reduceLT, Nat.reduceSub, decide_true, decide_false, and_self, true_and, and_true, false_and, and_false, not_true_eq_false, not_false_eq_true, false_implies, true_implies, implies_true, ge_iff_le, Bool.false_eq_true, List.cons_append, List.nil_append]
  refine callQ_self ?_ (famBoolSS.afT m.2.2.1 h.1) ?_
  · exact rfl
  simp +contextual -implicitDefEqProofs only [eM, eG, eS, tModel, famBoolSS_t, famBoolSSS_t, go_sem, eI, eB, ↓reduceIte, Nat.reduceEqDiff, Nat.reduceAdd, Nat.reduceLeDiff, Nat.reduceMul, Nat.reduceBEq, Nat.reduceBneDiff, Nat.reduceLT, Nat.reduceSub, decide_true, decide_false, and_self, true_and, and_true, false_and, and_false, not_true_eq_false, not_false_eq_true, false_implies, true_implies, implies_true, ge_iff_le, Bool.false_eq_true, List.cons_append, List.nil_append]
  refine callQ_self ?_ (famBoolSSS.afT m.2.2.2 h.2) ?_
  · exact rfl
  simp +contextual -implicitDefEqProofs only [eM, eG, eS, tModel, famBoolSS_t, famBoolSSS_t, go_sem, eI, eB, ↓reduceIte, Nat.reduceEqDiff, Nat.reduceAdd, Nat.reduceLeDiff, Nat.reduceMul, Nat.reduceBEq, Nat.reduceBneDiff, Nat.reduceLT, Nat.reduceSub, decide_true, decide_false, and_self, true_and, and_true, false_and, and_false, not_true_eq_false, not_false_eq_true, false_implies, true_implies, implies_true, ge_iff_le, Bool.false_eq_true, List.cons_append, List.nil_append]
theorem af19 (a b : Mo) : AF Try.prog 19 [eM a, eM b] (.own (eB (qModel a b))) := by
  refine af_of_res res19 mixed rfl fun _ => ?_
  simp +contextual -implicitDefEqProofs only [rc19, qModel, bne, Bool.not_true, Bool.not_false, Bool.true_and, Bool.false_and, Bool.and_true, Bool.and_false, eM, eG, eS, go_sem, eI, eB, ↓reduceIte, Nat.reduceEqDiff, Nat.reduceAdd, Nat.reduceLeDiff, Nat.reduceMul, Nat.reduceBEq, Nat.reduceBneDiff, Nat.reduceLT, Nat.reduceSub, decide_true, decide_false, and_self, true_and, and_true, false_and, and_false, not_true_eq_false, not_false_eq_true, false_implies, true_implies, implies_true, ge_iff_le, Bool.false_eq_true, List.cons_append, List.nil_append]
  refine callQ_self ?_ (af90 a.1 b.1) ?_
  · exact rfl
  cases e0 : qG a.1 b.1
  · simp +contextual -implicitDefEqProofs only [qModel, bne, Bool.not_true, Bool.not_false, Bool.true_and, Bool.false_and, Bool.and_true, Bool.and_false, eM, eG, eS, e0, go_sem, eI, eB, ↓reduceIte, Nat.reduceEqDiff, Nat.reduceAdd, Nat.reduceLeDiff, Nat.reduceMul, Nat.reduceBEq, Nat.reduceBneDiff, Nat.reduceLT, Nat.reduceSub, decide_true, decide_false, and_self, true_and, and_true, false_and, and_false, not_true_eq_false, not_false_eq_true, false_implies, true_implies, implies_true, ge_iff_le, Bool.false_eq_true, List.cons_append, List.nil_append]
  cases e1 : (a.2.1 == b.2.1)
  · simp +contextual -implicitDefEqProofs only [qModel, bne, Bool.not_true, Bool.not_false, Bool.true_and, Bool.false_and, Bool.and_true, Bool.and_false, eM, eG, eS, e0, e1, go_sem, eI, eB, ↓reduceIte, Nat.reduceEqDiff, Nat.reduceAdd, Nat.reduceLeDiff, Nat.reduceMul, Nat.reduceBEq, Nat.reduceBneDiff, Nat.reduceLT, Nat.reduceSub, decide_true, decide_false, and_self, true_and, and_true, false_and, and_false, not_true_eq_false, not_false_eq_true, false_implies, true_implies, implies_true, ge_iff_le, Bool.false_eq_true, List.cons_append, List.nil_append]
  simp +contextual -implicitDefEqProofs only [qModel, bne, Bool.not_true, Bool.not_false, Bool.true_and, Bool.false_and, Bool.and_true, Bool.and_false, eM, eG, eS, e0, e1, go_sem, eI, eB, ↓reduceIte, Nat.reduceEqDiff, Nat.reduceAdd, Nat.reduceLeDiff, Nat.reduceMul, Nat.reduceBEq, Nat.reduceBneDiff, Nat.reduceLT, Nat.reduceSub, decide_true, decide_false, and_self, true_and, and_true, false_and, and_false, not_true_eq_false, not_false_eq_true, false_implies, true_implies, implies_true, ge_iff_le, Bool.false_eq_true, List.cons_append, List.nil_append]
  refine callQ_self ?_ (famBoolSS.afQ a.2.2.1 b.2.2.1) ?_
  · exact rfl
  cases e2 : famBoolSS.q a.2.2.1 b.2.2.1
  · simp +contextual -implicitDefEqProofs only [qModel, bne, Bool.not_true, Bool.not_false, Bool.true_and, Bool.false_and, Bool.and_true, Bool.and_false, eM, eG, eS, e0, e1, e2, go_sem, eI, eB, ↓reduceIte, Nat.reduceEqDiff, Nat.reduceAdd, Nat.reduceLeDiff, Nat.reduceMul, Nat.reduceBEq, Nat.reduceBneDiff, Nat.reduceLT, Nat.reduceSub, decide_true, decide_false, and_self, true_and, and_true, false_and, and_false, not_true_eq_false, not_false_eq_true, false_implies, true_implies, implies_true, ge_iff_le, Bool.false_eq_true, List.cons_append, List.nil_append]
  simp +contextual -implicitDefEqProofs only [qModel, bne, Bool.not_true, Bool.not_false, Bool.true_and, Bool.false_and, Bool.and_true, Bool.and_false, eM, eG, eS, e0, e1, e2, go_sem, eI, eB, ↓reduceIte, Nat.reduceEqDiff, Nat.reduceAdd, Nat.reduceLeDiff, Nat.reduceMul, Nat.reduceBEq, Nat.reduceBneDiff, Nat.reduceLT, Nat.reduceSub, decide_true, decide_false, and_self, true_and, and_true, false_and, and_false, not_true_eq_false, not_false_eq_true, false_implies, true_implies, implies_true, ge_iff_le, Bool.false_eq_true, List.cons_append, List.nil_append]
  refine callQ_self ?_ (famBoolSSS.afQ a.2.2.2 b.2.2.2) ?_
  · exact rfl
  cases e3 : famBoolSSS.q a.2.2.2 b.2.2.2
  · simp +contextual -implicitDefEqProofs only [qModel, bne, Bool.not_true, Bool.not_false, Bool.true_and, Bool.false_and, Bool.and_true, Bool.and_false, eM, eG, eS, e0, e1, e2, e3, go_sem, eI, eB, ↓reduceIte, Nat.reduceEqDiff, Nat.reduceAdd, Nat.reduceLeDiff, Nat.reduceMul, Nat.reduceBEq, Nat.reduceBneDiff, Nat.reduceLT, Nat.reduceSub, decide_true, decide_false, and_self, true_and, and_true, false_and, and_false, not_true_eq_false, not_false_eq_true, false_implies, true_implies, implies_true, ge_iff_le, Bool.false_eq_true, List.cons_append, List.nil_append]
  · simp +contextual -implicitDefEqProofs only [qModel, bne, Bool.not_true, Bool.not_false, Bool.true_and, Bool.false_and, Bool.and_true, Bool.and_false, eM, eG, eS, e0, e1, e2, e3, go_sem, eI, eB, ↓reduceIte, Nat.reduceEqDiff, Nat.reduceAdd, Nat.reduceLeDiff, Nat.reduceMul, Nat.reduceBEq, Nat.reduceBneDiff, Nat.reduceLT, Nat.reduceSub, decide_true, decide_false, and_self, true_and, and_true, false_and, and_false, not_true_eq_false, not_false_eq_true, false_implies, true_implies, implies_true, ge_iff_le, Bool.false_eq_true, List.cons_append, List.nil_append]
theorem qModel_refl (m : Mo) : qModel m m = true := by simp [qModel, qG, famBoolSS.q_refl, famBoolSSS.q_refl]
noncomputable def famModel : Fam Try.prog eM 15 17 19 := ⟨szModel, tModel, qModel, fitModel, szModel_in, szModel_fit, qModel_refl, af15, af17, af19⟩
theorem famModel_t (x) : famModel.t x = tModel x := rfl
theorem law (m : Mo) (x : Int) : AF Try.prog 3 [eM m, eI x] (.own (eB true)) := by
  refine af_of_res res3 mixed rfl fun hbd => ?_
  simp +contextual -implicitDefEqProofs only [rc3, eM, eS, famModel_t, tModel, famBoolSS_t, famBoolSSS_t, bne_self_eq_false, go_sem, eI, eB, ↓reduceIte, Nat.reduceEqDiff, Nat.reduceAdd, Nat.reduceLeDiff, Nat.reduceMul, Nat.reduceBEq, Nat.reduceBneDiff, Nat.reduceLT, Nat.reduceSub, decide_true, decide_false, and_self, true_and, and_true, false_and, and_false, not_true_eq_false, not_false_eq_true, false_implies, true_implies, implies_true, ge_iff_le, Bool.false_eq_true, List.cons_append, List.nil_append]
  refine callQ_self ?_ (famModel.afS m 1048576 (by omega) (by omega)) ?_
  · exact rfl
  simp +contextual -implicitDefEqProofs only [eM, eS, famModel_t, tModel, famBoolSS_t, famBoolSSS_t, bne_self_eq_false, go_sem, eI, eB, ↓reduceIte, Nat.reduceEqDiff, Nat.reduceAdd, Nat.reduceLeDiff, Nat.reduceMul, Nat.reduceBEq, Nat.reduceBneDiff, Nat.reduceLT, Nat.reduceSub, decide_true, decide_false, and_self, true_and, and_true, false_and, and_false, not_true_eq_false, not_false_eq_true, false_implies, true_implies, implies_true, ge_iff_le, Bool.false_eq_true, List.cons_append, List.nil_append]
  have sb0 := famModel.s_in m 1048576 (by omega) (by omega)
  refine fun hs0 => ?_
  have hf0 := famModel.s_fit m 1048576 (by omega) (by omega) (by omega)
  refine callQ_self ?_ (famModel.afT m hf0) ?_
  · exact rfl
  simp +contextual -implicitDefEqProofs only [eM, eS, famModel_t, tModel, famBoolSS_t, famBoolSSS_t, bne_self_eq_false, go_sem, eI, eB, ↓reduceIte, Nat.reduceEqDiff, Nat.reduceAdd, Nat.reduceLeDiff, Nat.reduceMul, Nat.reduceBEq, Nat.reduceBneDiff, Nat.reduceLT, Nat.reduceSub, decide_true, decide_false, and_self, true_and, and_true, false_and, and_false, not_true_eq_false, not_false_eq_true, false_implies, true_implies, implies_true, ge_iff_le, Bool.false_eq_true, List.cons_append, List.nil_append]
  refine callQ_self ?_ (af16 (famModel.t m) x) ?_
  · exact rfl
  simp +contextual -implicitDefEqProofs only [eM, eS, famModel_t, tModel, famBoolSS_t, famBoolSSS_t, bne_self_eq_false, go_sem, eI, eB, ↓reduceIte, Nat.reduceEqDiff, Nat.reduceAdd, Nat.reduceLeDiff, Nat.reduceMul, Nat.reduceBEq, Nat.reduceBneDiff, Nat.reduceLT, Nat.reduceSub, decide_true, decide_false, and_self, true_and, and_true, false_and, and_false, not_true_eq_false, not_false_eq_true, false_implies, true_implies, implies_true, ge_iff_le, Bool.false_eq_true, List.cons_append, List.nil_append]
  refine callQ_self ?_ (famModel.afT m hf0) ?_
  · exact rfl
  simp +contextual -implicitDefEqProofs only [eM, eS, famModel_t, tModel, famBoolSS_t, famBoolSSS_t, bne_self_eq_false, go_sem, eI, eB, ↓reduceIte, Nat.reduceEqDiff, Nat.reduceAdd, Nat.reduceLeDiff, Nat.reduceMul, Nat.reduceBEq, Nat.reduceBneDiff, Nat.reduceLT, Nat.reduceSub, decide_true, decide_false, and_self, true_and, and_true, false_and, and_false, not_true_eq_false, not_false_eq_true, false_implies, true_implies, implies_true, ge_iff_le, Bool.false_eq_true, List.cons_append, List.nil_append]
  refine callQ_self ?_ (af18 (famModel.t m) x) ?_
  · exact rfl
  simp +contextual -implicitDefEqProofs only [eM, eS, famModel_t, tModel, famBoolSS_t, famBoolSSS_t, bne_self_eq_false, go_sem, eI, eB, ↓reduceIte, Nat.reduceEqDiff, Nat.reduceAdd, Nat.reduceLeDiff, Nat.reduceMul, Nat.reduceBEq, Nat.reduceBneDiff, Nat.reduceLT, Nat.reduceSub, decide_true, decide_false, and_self, true_and, and_true, false_and, and_false, not_true_eq_false, not_false_eq_true, false_implies, true_implies, implies_true, ge_iff_le, Bool.false_eq_true, List.cons_append, List.nil_append]
  refine callQ_self ?_ (famModel.afT m hf0) ?_
  · exact rfl
  simp +contextual -implicitDefEqProofs only [eM, eS, famModel_t, tModel, famBoolSS_t, famBoolSSS_t, bne_self_eq_false, go_sem, eI, eB, ↓reduceIte, Nat.reduceEqDiff, Nat.reduceAdd, Nat.reduceLeDiff, Nat.reduceMul, Nat.reduceBEq, Nat.reduceBneDiff, Nat.reduceLT, Nat.reduceSub, decide_true, decide_false, and_self, true_and, and_true, false_and, and_false, not_true_eq_false, not_false_eq_true, false_implies, true_implies, implies_true, ge_iff_le, Bool.false_eq_true, List.cons_append, List.nil_append]
  refine callQ_self ?_ (famModel.afQ (famModel.t m) (famModel.t m)) ?_
  · exact rfl
  simp +contextual -implicitDefEqProofs only [famModel.q_refl, Bool.not_true, eM, eS, famModel_t, tModel, famBoolSS_t, famBoolSSS_t, bne_self_eq_false, go_sem, eI, eB, ↓reduceIte, Nat.reduceEqDiff, Nat.reduceAdd, Nat.reduceLeDiff, Nat.reduceMul, Nat.reduceBEq, Nat.reduceBneDiff, Nat.reduceLT, Nat.reduceSub, decide_true, decide_false, and_self, true_and, and_true, false_and, and_false, not_true_eq_false, not_false_eq_true, false_implies, true_implies, implies_true, ge_iff_le, Bool.false_eq_true, List.cons_append, List.nil_append]
end Go.Ax
