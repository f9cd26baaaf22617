/- Contracts of functions of the seat, proved over the engine. No condition. -/
import Derived.Test.YtcklakmblpkbnaaAxXP
set_option linter.unusedSimpArgs false
set_option linter.unusedVariables false
set_option linter.unnecessarySimpa false
namespace Go.Ax
set_option linter.unusedSimpArgs false
def Pg.k : Pg → Int | .mk k _ _ _ _ => k
def Pg.n : Pg → Int | .mk _ n _ _ _ => n
def Pg.c : Pg → Ex | .mk _ _ c _ _ => c
def Pg.nn : Pg → Option Bool | .mk _ _ _ nn _ => nn
def Pg.ks : Pg → List Pg | .mk _ _ _ _ ks => ks
theorem eP_eta (a : Pg) : eP a = .ag [.sc (.int .i64 a.k), .sc (.int .i64 a.n), .sc (.int .i64 a.c.k), .sc (.int .i64 a.c.n), .ls a.c.nn 3 (a.c.ks.map eE), .ls a.nn 6 (a.ks.map eP)] := by cases a; rw [eP_mk]; rfl
theorem eE_t (c : Ex) : eE (tE c) = .ag [.sc (.int .i64 c.k), .sc (.int .i64 c.n), .ls (some false) 3 ((c.ks.map tE).map eE)] := by cases c; rw [tE_mk, eE_mk]; rfl
def k_szProg (f1 f2 : Nat) : RC :=
 (.seq
  (.reg false [⟨none, .box 2 6 (.t 0)⟩,
    ⟨none, .mv 4 (.c (.sc (.int .i64 0)))⟩])
  ((.seq
   (.reg false [⟨none, .fa 5 2 (.t 2)⟩,
     ⟨none, .ld 6 true 3 (.t 5)⟩,
     ⟨none, .mv 7 (.t 1)⟩,
     ⟨none, .call (some 8) f1 [(.t 6), (.t 7)]⟩,
     ⟨none, .mv 1 (.t 8)⟩])
   ((.seq
    ((.seq
     (.reg false [⟨none, .mv 9 (.t 1)⟩,
       ⟨none, .bin 10 .lss (.t 9) (.c (.sc (.int .i64 0)))⟩])
     (.cond (.t 10)
      ((.seq
       (.reg false [⟨none, .mv 4 (.c (.sc (.int .i64 (-1))))⟩])
       (.ret)))
      (.skip))))
    ((.seq
     (.reg false [⟨none, .fa 11 5 (.t 2)⟩,
       ⟨none, .ld 12 false 1 (.t 11)⟩,
       ⟨none, .mv 13 (.t 1)⟩,
       ⟨none, .call (some 14) f2 [(.t 12), (.t 13)]⟩,
       ⟨none, .mv 1 (.t 14)⟩])
     ((.seq
      ((.seq
       (.reg false [⟨none, .mv 15 (.t 1)⟩,
         ⟨none, .bin 16 .lss (.t 15) (.c (.sc (.int .i64 0)))⟩])
       (.cond (.t 16)
        ((.seq
         (.reg false [⟨none, .mv 4 (.c (.sc (.int .i64 (-1))))⟩])
         (.ret)))
        (.skip))))
      ((.seq
       (.reg false [⟨none, .mv 17 (.t 1)⟩,
         ⟨none, .mv 4 (.t 17)⟩])
       (.ret))))))))))))
def k_toProg (f1 f2 : Nat) : RC :=
 (.seq
  (.reg false [⟨none, .box 1 6 (.t 0)⟩,
    ⟨none, .zer 2 6 (.ag [(.sc (.int .i64 0)), (.sc (.int .i64 0)), (.sc (.int .i64 0)), (.sc (.int .i64 0)), (.ls (some true) 3 []), (.ls (some true) 6 [])])⟩])
  ((.seq
   (.reg false [⟨none, .zer 3 6 (.ag [(.sc (.int .i64 0)), (.sc (.int .i64 0)), (.sc (.int .i64 0)), (.sc (.int .i64 0)), (.ls (some true) 3 []), (.ls (some true) 6 [])])⟩])
   ((.seq
    (.reg false [⟨none, .fa 4 0 (.t 1)⟩,
      ⟨none, .ld 5 false 1 (.t 4)⟩,
      ⟨none, .fa 6 0 (.t 3)⟩,
      ⟨none, .st 1 (.t 6) (.t 5)⟩])
    ((.seq
     (.reg false [⟨none, .fa 7 1 (.t 1)⟩,
       ⟨none, .ld 8 false 1 (.t 7)⟩,
       ⟨none, .fa 9 1 (.t 3)⟩,
       ⟨none, .st 1 (.t 9) (.t 8)⟩])
     ((.seq
      (.reg false [⟨none, .fa 10 2 (.t 1)⟩,
        ⟨none, .ld 11 true 3 (.t 10)⟩,
        ⟨none, .call (some 12) f1 [(.t 11)]⟩,
        ⟨none, .fa 13 2 (.t 3)⟩,
        ⟨none, .st 3 (.t 13) (.t 12)⟩])
      ((.seq
       (.reg false [⟨none, .fa 14 5 (.t 1)⟩,
         ⟨none, .ld 15 false 1 (.t 14)⟩,
         ⟨none, .call (some 16) f2 [(.t 15)]⟩,
         ⟨none, .fa 17 5 (.t 3)⟩,
         ⟨none, .st 1 (.t 17) (.t 16)⟩])
       ((.seq
        (.reg false [⟨none, .ld 18 true 6 (.t 3)⟩,
          ⟨none, .st 6 (.t 2) (.t 18)⟩])
        (.ret))))))))))))))
def k_eqProg (f1 f2 : Nat) : RC :=
 (.seq
  (.reg false [⟨none, .box 2 6 (.t 0)⟩,
    ⟨none, .box 3 6 (.t 1)⟩,
    ⟨none, .mv 4 (.c (.sc (.bool false)))⟩])
  ((.seq
   ((.seq
    (.reg false [⟨none, .fa 5 0 (.t 2)⟩,
      ⟨none, .ld 6 false 1 (.t 5)⟩,
      ⟨none, .fa 7 0 (.t 3)⟩,
      ⟨none, .ld 8 false 1 (.t 7)⟩,
      ⟨none, .bin 9 .neq (.t 6) (.t 8)⟩])
    (.cond (.t 9)
     ((.seq
      (.reg false [⟨none, .mv 4 (.c (.sc (.bool false)))⟩])
      (.ret)))
     (.skip))))
   ((.seq
    ((.seq
     (.reg false [⟨none, .fa 10 1 (.t 2)⟩,
       ⟨none, .ld 11 false 1 (.t 10)⟩,
       ⟨none, .fa 12 1 (.t 3)⟩,
       ⟨none, .ld 13 false 1 (.t 12)⟩,
       ⟨none, .bin 14 .neq (.t 11) (.t 13)⟩])
     (.cond (.t 14)
      ((.seq
       (.reg false [⟨none, .mv 4 (.c (.sc (.bool false)))⟩])
       (.ret)))
      (.skip))))
    ((.seq
     ((.seq
      (.reg false [⟨none, .fa 15 2 (.t 2)⟩,
        ⟨none, .ld 16 true 3 (.t 15)⟩,
        ⟨none, .fa 17 2 (.t 3)⟩,
        ⟨none, .ld 18 true 3 (.t 17)⟩,
        ⟨none, .call (some 19) f1 [(.t 16), (.t 18)]⟩,
        ⟨none, .un 20 .not (.t 19)⟩])
      (.cond (.t 20)
       ((.seq
        (.reg false [⟨none, .mv 4 (.c (.sc (.bool false)))⟩])
        (.ret)))
       (.skip))))
     ((.seq
      ((.seq
       (.reg false [⟨none, .fa 21 5 (.t 2)⟩,
         ⟨none, .ld 22 false 1 (.t 21)⟩,
         ⟨none, .fa 23 5 (.t 3)⟩,
         ⟨none, .ld 24 false 1 (.t 23)⟩,
         ⟨none, .call (some 25) f2 [(.t 22), (.t 24)]⟩,
         ⟨none, .un 26 .not (.t 25)⟩])
       (.cond (.t 26)
        ((.seq
         (.reg false [⟨none, .mv 4 (.c (.sc (.bool false)))⟩])
         (.ret)))
        (.skip))))
      ((.seq
       (.reg false [⟨none, .mv 4 (.c (.sc (.bool true)))⟩])
       (.ret))))))))))))
section
variable {P : Program} (hm : P.follows .mixedOrders = true)
include hm
theorem af_szProg {g f1 f2 a b : Nat} (F : Fam P eE f1 a b) (rs : resF P g = some (18, k_szProg f1 f2, [.t 4])) (rss : resF P f2 = some (27, cSzC g 6 true, [.t 4])) (hF : ∀ e l, F.s e l = szE e l) :
    ∀ (e : Pg) (l : Int), 0 ≤ l → l ≤ 1048576 → AF P g [eP e, eI l] (.own (eI (szP e l))) :=
  Pg.ind fun k n c nn ks ih l h1 h2 => by
    have b := szE_in c l h1 h2
    have h0 := F.afS c l h1 h2
    rw [hF] at h0
    rw [eP_mk, szP_mk]
    refine af_of_res rs hm rfl fun _ => ?_
    simp +contextual -implicitDefEqProofs only [k_szProg, eS, go_sem, eI, eB, ↓reduceIte, Nat.reduceEqDiff, Nat.reduceAdd, Nat.reduceLeDiff, Nat.reduceMul, Nat.reduceBEq, Nat.reduceBneDiff, Nat.reduceLT, Nat.reduceSub, decide_true, decide_false, and_self, true_and, and_true, false_and, and_false, not_true_eq_false, not_false_eq_true, false_implies, true_implies, implies_true, ge_iff_le, Bool.false_eq_true, List.cons_append, List.nil_append]
    refine callQ_self (ds := [eE c, eI l]) ?_ h0 ?_
    · rw [eE_eta]; exact rfl
    simp +contextual -implicitDefEqProofs only [eS, go_sem, eI, eB, ↓reduceIte, Nat.reduceEqDiff, Nat.reduceAdd, Nat.reduceLeDiff, Nat.reduceMul, Nat.reduceBEq, Nat.reduceBneDiff, Nat.reduceLT, Nat.reduceSub, decide_true, decide_false, and_self, true_and, and_true, false_and, and_false, not_true_eq_false, not_false_eq_true, false_implies, true_implies, implies_true, ge_iff_le, Bool.false_eq_true, List.cons_append, List.nil_append]
    refine ⟨fun h => D.Le.sc_eq (by rw [nx_neg h]), fun h => ?_⟩
    have hs : AF P f2 [eS 6 eP (nn, ks), eI (szE c l)] (.own (eI (szS szP (nn, ks) (szE c l)))) := af_szC hm encP rss szP (nn, ks) (fun x hx l g1 g2 => ⟨ih x hx l g1 g2, (szP_in x l g1 g2).1, by have := (szP_in x l g1 g2).2; omega⟩) (szE c l) (by omega) (by omega)
    refine callQ_self ?_ hs ?_
    · exact rfl
    simp +contextual -implicitDefEqProofs only [eS, go_sem, eI, eB, ↓reduceIte, Nat.reduceEqDiff, Nat.reduceAdd, Nat.reduceLeDiff, Nat.reduceMul, Nat.reduceBEq, Nat.reduceBneDiff, Nat.reduceLT, Nat.reduceSub, decide_true, decide_false, and_self, true_and, and_true, false_and, and_false, not_true_eq_false, not_false_eq_true, false_implies, true_implies, implies_true, ge_iff_le, Bool.false_eq_true, List.cons_append, List.nil_append]
    exact ⟨fun h' => D.Le.sc_eq (by rw [nx_pos h, nx_neg h']), fun h' => D.Le.sc_eq (by rw [nx_pos h, nx_pos h'])⟩
theorem af_toProg {g f1 f2 a b : Nat} (F : Fam P eE a f1 b) (rs : resF P g = some (19, k_toProg f1 f2, [.c 2 6 true])) (rss : resF P f2 = some (23, cToC g 6 80 true (.ag [(.sc (.int .i64 0)), (.sc (.int .i64 0)), (.sc (.int .i64 0)), (.sc (.int .i64 0)), (.ls (some true) 3 []), (.ls (some true) 6 [])]), [.t 2])) (hF : ∀ e, fitE e → F.fit e) (hT : ∀ e, F.t e = tE e) :
    ∀ e : Pg, fitP e → AF P g [eP e] (.own (eP (tP e))) :=
  Pg.ind fun k n c nn ks ih h => by
    rw [fitP_mk] at h
    have h0 := F.afT c (hF c h.1)
    rw [hT, eE_t] at h0
    have hs : AF P f2 [eS 6 eP (nn, ks)] (.own (eS 6 eP (some false, ks.map tP))) := af_toC hm encP encP ⟨rfl, rfl, rfl⟩ rss (nn, ks) (by have := h.2.1; simp only; omega) fun x hx => ih x hx (h.2.2 x hx)
    have e1 : eP (tP (.mk k n c nn ks)) = .ag [.sc (.int .i64 k), .sc (.int .i64 n), .sc (.int .i64 c.k), .sc (.int .i64 c.n), .ls (some false) 3 ((c.ks.map tE).map eE), .ls (some false) 6 ((ks.map tP).map eP)] := by
      rw [tP_mk, eP_mk]; cases c; rw [tE_mk]; rfl
    rw [e1, eP_mk]
    refine af_of_res rs hm rfl fun _ => ?_
    simp +contextual -implicitDefEqProofs only [k_toProg, eS, go_sem, eI, eB, ↓reduceIte, Nat.reduceEqDiff, Nat.reduceAdd, Nat.reduceLeDiff, Nat.reduceMul, Nat.reduceBEq, Nat.reduceBneDiff, Nat.reduceLT, Nat.reduceSub, decide_true, decide_false, and_self, true_and, and_true, false_and, and_false, not_true_eq_false, not_false_eq_true, false_implies, true_implies, implies_true, ge_iff_le, Bool.false_eq_true, List.cons_append, List.nil_append]
    refine callQ_self (ds := [eE c]) ?_ h0 ?_
    · rw [eE_eta]; exact rfl
    simp +contextual -implicitDefEqProofs only [eS, go_sem, eI, eB, ↓reduceIte, Nat.reduceEqDiff, Nat.reduceAdd, Nat.reduceLeDiff, Nat.reduceMul, Nat.reduceBEq, Nat.reduceBneDiff, Nat.reduceLT, Nat.reduceSub, decide_true, decide_false, and_self, true_and, and_true, false_and, and_false, not_true_eq_false, not_false_eq_true, false_implies, true_implies, implies_true, ge_iff_le, Bool.false_eq_true, List.cons_append, List.nil_append]
    refine callQ_self ?_ hs ?_
    · exact rfl
    simp +contextual -implicitDefEqProofs only [eS, go_sem, eI, eB, ↓reduceIte, Nat.reduceEqDiff, Nat.reduceAdd, Nat.reduceLeDiff, Nat.reduceMul, Nat.reduceBEq, Nat.reduceBneDiff, Nat.reduceLT, Nat.reduceSub, decide_true, decide_false, and_self, true_and, and_true, false_and, and_false, not_true_eq_false, not_false_eq_true, false_implies, true_implies, implies_true, ge_iff_le, Bool.false_eq_true, List.cons_append, List.nil_append]

theorem af_eqProg {g f1 f2 a b : Nat} (F : Fam P eE a b f1) (rs : resF P g = some (27, k_eqProg f1 f2, [.t 4])) (rss : resF P f2 = some (27, cEqC g 6 true, [.t 4])) (hF : ∀ x y, F.q x y = qE x y) :
    ∀ a b : Pg, AF P g [eP a, eP b] (.own (eB (qP a b))) :=
  Pg.ind fun k n c nn ks ih b => by
    cases b with
    | mk k' n' c' nn' ks' =>
    have h0 := F.afQ c c'
    rw [hF] at h0
    have hs : AF P f2 [eS 6 eP (nn, ks), eS 6 eP (nn', ks')] (.own (eB (eqL qP ks ks'))) := af_eqC hm encP rss qP (nn, ks) (nn', ks') fun x hx y _ => ih x hx y
    rw [eP_mk, eP_mk, qP_mk]
    refine af_of_res rs hm rfl fun _ => ?_
    cases h1 : (k == k')
    · simp +contextual -implicitDefEqProofs only [k_eqProg, eS, h1, bne, Bool.not_true, Bool.not_false, Bool.true_and, Bool.false_and, Bool.and_true, Bool.and_false, Bool.true_or, Bool.false_or, Bool.or_true, Bool.or_false, go_sem, eI, eB, ↓reduceIte, Nat.reduceEqDiff, Nat.reduceAdd, Nat.reduceLeDiff, Nat.reduceMul, Nat.reduceBEq, Nat.reduceBneDiff, Nat.reduceLT, Nat.reduceSub, decide_true, decide_false, and_self, true_and, and_true, false_and, and_false, not_true_eq_false, not_false_eq_true, false_implies, true_implies, implies_true, ge_iff_le, Bool.false_eq_true, List.cons_append, List.nil_append]
    cases h2 : (n == n')
    · simp +contextual -implicitDefEqProofs only [k_eqProg, eS, h1, h2, bne, Bool.not_true, Bool.not_false, Bool.true_and, Bool.false_and, Bool.and_true, Bool.and_false, Bool.true_or, Bool.false_or, Bool.or_true, Bool.or_false, go_sem, eI, eB, ↓reduceIte, Nat.reduceEqDiff, Nat.reduceAdd, Nat.reduceLeDiff, Nat.reduceMul, Nat.reduceBEq, Nat.reduceBneDiff, Nat.reduceLT, Nat.reduceSub, decide_true, decide_false, and_self, true_and, and_true, false_and, and_false, not_true_eq_false, not_false_eq_true, false_implies, true_implies, implies_true, ge_iff_le, Bool.false_eq_true, List.cons_append, List.nil_append]
    simp +contextual -implicitDefEqProofs only [k_eqProg, eS, h1, h2, bne, Bool.not_true, Bool.not_false, Bool.true_and, Bool.false_and, Bool.and_true, Bool.and_false, Bool.true_or, Bool.false_or, Bool.or_true, Bool.or_false, go_sem, eI, eB, ↓reduceIte, Nat.reduceEqDiff, Nat.reduceAdd, Nat.reduceLeDiff, Nat.reduceMul, Nat.reduceBEq, Nat.reduceBneDiff, Nat.reduceLT, Nat.reduceSub, decide_true, decide_false, and_self, true_and, and_true, false_and, and_false, not_true_eq_false, not_false_eq_true, false_implies, true_implies, implies_true, ge_iff_le, Bool.false_eq_true, List.cons_append, List.nil_append]
    refine callQ_self (ds := [eE c, eE c']) ?_ h0 ?_
    · rw [eE_eta, eE_eta]; exact rfl
    cases h4 : qE c c'
    · simp +contextual -implicitDefEqProofs only [eS, h4, bne, Bool.not_true, Bool.not_false, Bool.true_and, Bool.false_and, Bool.and_true, Bool.and_false, Bool.true_or, Bool.false_or, Bool.or_true, Bool.or_false, go_sem, eI, eB, ↓reduceIte, Nat.reduceEqDiff, Nat.reduceAdd, Nat.reduceLeDiff, Nat.reduceMul, Nat.reduceBEq, Nat.reduceBneDiff, Nat.reduceLT, Nat.reduceSub, decide_true, decide_false, and_self, true_and, and_true, false_and, and_false, not_true_eq_false, not_false_eq_true, false_implies, true_implies, implies_true, ge_iff_le, Bool.false_eq_true, List.cons_append, List.nil_append]
    simp +contextual -implicitDefEqProofs only [eS, h4, bne, Bool.not_true, Bool.not_false, Bool.true_and, Bool.false_and, Bool.and_true, Bool.and_false, Bool.true_or, Bool.false_or, Bool.or_true, Bool.or_false, go_sem, eI, eB, ↓reduceIte, Nat.reduceEqDiff, Nat.reduceAdd, Nat.reduceLeDiff, Nat.reduceMul, Nat.reduceBEq, Nat.reduceBneDiff, Nat.reduceLT, Nat.reduceSub, decide_true, decide_false, and_self, true_and, and_true, false_and, and_false, not_true_eq_false, not_false_eq_true, false_implies, true_implies, implies_true, ge_iff_le, Bool.false_eq_true, List.cons_append, List.nil_append]
    refine callQ_self ?_ hs ?_
    · exact rfl
    cases h3 : eqL qP ks ks'
    · simp +contextual -implicitDefEqProofs only [eS, h3, bne, Bool.not_true, Bool.not_false, Bool.true_and, Bool.false_and, Bool.and_true, Bool.and_false, Bool.true_or, Bool.false_or, Bool.or_true, Bool.or_false, go_sem, eI, eB, ↓reduceIte, Nat.reduceEqDiff, Nat.reduceAdd, Nat.reduceLeDiff, Nat.reduceMul, Nat.reduceBEq, Nat.reduceBneDiff, Nat.reduceLT, Nat.reduceSub, decide_true, decide_false, and_self, true_and, and_true, false_and, and_false, not_true_eq_false, not_false_eq_true, false_implies, true_implies, implies_true, ge_iff_le, Bool.false_eq_true, List.cons_append, List.nil_append]
    · simp +contextual -implicitDefEqProofs only [eS, h3, bne, Bool.not_true, Bool.not_false, Bool.true_and, Bool.false_and, Bool.and_true, Bool.and_false, Bool.true_or, Bool.false_or, Bool.or_true, Bool.or_false, go_sem, eI, eB, ↓reduceIte, Nat.reduceEqDiff, Nat.reduceAdd, Nat.reduceLeDiff, Nat.reduceMul, Nat.reduceBEq, Nat.reduceBneDiff, Nat.reduceLT, Nat.reduceSub, decide_true, decide_false, and_self, true_and, and_true, false_and, and_false, not_true_eq_false, not_false_eq_true, false_implies, true_implies, implies_true, ge_iff_le, Bool.false_eq_true, List.cons_append, List.nil_append]

def famPg {sE tE' qE' sF tF qF sG tG qG : Nat} (F : Fam P eE sE tE' qE') (hF : F.s = szE ∧ F.t = tE ∧ F.q = qE ∧ F.fit = fitE)
    (r1 : resF P sF = some (18, k_szProg sE sG, [.t 4])) (r2 : resF P sG = some (27, cSzC sF 6 true, [.t 4]))
    (r3 : resF P tF = some (19, k_toProg tE' tG, [.c 2 6 true])) (r4 : resF P tG = some (23, cToC tF 6 80 true (.ag [(.sc (.int .i64 0)), (.sc (.int .i64 0)), (.sc (.int .i64 0)), (.sc (.int .i64 0)), (.ls (some true) 3 []), (.ls (some true) 6 [])]), [.t 2]))
    (r5 : resF P qF = some (27, k_eqProg qE' qG, [.t 4])) (r6 : resF P qG = some (27, cEqC qF 6 true, [.t 4])) : Fam P eP sF tF qF where
  s := szP
  t := tP
  q := qP
  fit := fitP
  s_in := szP_in
  s_fit := szP_fit
  q_refl := qP_refl
  afS := af_szProg hm F r1 r2 fun e l => by rw [hF.1]
  afT := af_toProg hm F r3 r4 (fun e h => by rw [hF.2.2.2]; exact h) fun e => by rw [hF.2.1]
  afQ := af_eqProg hm F r5 r6 fun x y => by rw [hF.2.2.1]
end

def k_sameExpr (g f1 : Nat) : RC :=
 (.seq
  (.reg false [⟨none, .box 2 3 (.t 0)⟩,
    ⟨none, .box 3 3 (.t 1)⟩,
    ⟨none, .mv 4 (.c (.sc (.bool false)))⟩])
  ((.seq
   (.reg false [⟨none, .fa 5 0 (.t 2)⟩,
     ⟨none, .ld 6 false 1 (.t 5)⟩,
     ⟨none, .fa 7 0 (.t 3)⟩,
     ⟨none, .ld 8 false 1 (.t 7)⟩,
     ⟨none, .bin 9 .eql (.t 6) (.t 8)⟩,
     ⟨none, .mv 10 (.t 9)⟩,
     ⟨some (10, true), .fa 11 1 (.t 2)⟩,
     ⟨some (10, true), .ld 12 false 1 (.t 11)⟩,
     ⟨some (10, true), .fa 13 1 (.t 3)⟩,
     ⟨some (10, true), .ld 14 false 1 (.t 13)⟩,
     ⟨some (10, true), .bin 15 .eql (.t 12) (.t 14)⟩,
     ⟨none, .pick 16 (.t 10) (.t 15) (.c (.sc (.bool false)))⟩,
     ⟨none, .mv 17 (.t 16)⟩,
     ⟨some (17, true), .fa 18 2 (.t 2)⟩,
     ⟨some (17, true), .ld 19 false 1 (.t 18)⟩,
     ⟨some (17, true), .fa 20 2 (.t 3)⟩,
     ⟨some (17, true), .ld 21 false 1 (.t 20)⟩,
     ⟨some (17, true), .call (some 22) f1 [(.t 19), (.t 21), (.c (.sc (.func (.func g) #[] #[])))]⟩,
     ⟨none, .pick 23 (.t 17) (.t 22) (.c (.sc (.bool false)))⟩,
     ⟨none, .mv 4 (.t 23)⟩])
   (.ret))))
def K_sameExpr (P : Program) (f : Nat) : Prop := ∀ (a b : Ex), AF P f [eE a, eE b] (.own (eB (qE a b)))
theorem a_sameExpr {P : Program} (hm : P.follows .mixedOrders = true) {g f1 : Nat} (hr : resF P g = some (24, k_sameExpr g f1, [.t 4])) (hc1 : resF P f1 = some (32, cEfA 3 (.ag [(.sc (.int .i64 0)), (.sc (.int .i64 0)), (.ls (some true) 3 [])]), [.t 6])) : K_sameExpr P g := by
  intro a b
  revert b
  refine Ex.ind (p := fun a => ∀ b : Ex, AF P g [eE a, eE b] (.own (eB (qE a b)))) (fun k n nn ks ih b => ?_) a
  cases b with
  | mk k' n' nn' ks' =>
  have hs : AF P f1 [eS 3 eE (nn, ks), eS 3 eE (nn', ks'), .sc (.func (.func g) #[] #[])] (.own (eB (eqL qE ks ks'))) := af_efA hm encE ⟨rfl, rfl⟩ rfl hc1 qE (nn, ks) (nn', ks') fun x hx y _ => ih x hx y
  rw [eE_mk, eE_mk, qE_mk]
  refine af_of_res hr hm rfl fun hb => ?_
  cases h1 : (k == k')
  · simp +contextual -implicitDefEqProofs only [k_sameExpr, h1, bne, Bool.not_true, Bool.not_false, Bool.true_and, Bool.false_and, Bool.and_true, Bool.and_false, Bool.true_or, Bool.false_or, Bool.or_true, Bool.or_false, go_sem, eI, eB, ↓reduceIte, Nat.reduceEqDiff, Nat.reduceAdd, Nat.reduceLeDiff, Nat.reduceMul, Nat.reduceBEq, Nat.reduceBneDiff, Nat.reduceLT, Nat.reduceSub, decide_true, decide_false, and_self, true_and, and_true, false_and, and_false, not_true_eq_false, not_false_eq_true, false_implies, true_implies, implies_true, ge_iff_le, Bool.false_eq_true, List.cons_append, List.nil_append]
  cases h2 : (n == n')
  · simp +contextual -implicitDefEqProofs only [k_sameExpr, h1, h2, bne, Bool.not_true, Bool.not_false, Bool.true_and, Bool.false_and, Bool.and_true, Bool.and_false, Bool.true_or, Bool.false_or, Bool.or_true, Bool.or_false, go_sem, eI, eB, ↓reduceIte, Nat.reduceEqDiff, Nat.reduceAdd, Nat.reduceLeDiff, Nat.reduceMul, Nat.reduceBEq, Nat.reduceBneDiff, Nat.reduceLT, Nat.reduceSub, decide_true, decide_false, and_self, true_and, and_true, false_and, and_false, not_true_eq_false, not_false_eq_true, false_implies, true_implies, implies_true, ge_iff_le, Bool.false_eq_true, List.cons_append, List.nil_append]
  simp +contextual -implicitDefEqProofs only [k_sameExpr, h1, h2, bne, Bool.not_true, Bool.not_false, Bool.true_and, Bool.false_and, Bool.and_true, Bool.and_false, Bool.true_or, Bool.false_or, Bool.or_true, Bool.or_false, go_sem, eI, eB, ↓reduceIte, Nat.reduceEqDiff, Nat.reduceAdd, Nat.reduceLeDiff, Nat.reduceMul, Nat.reduceBEq, Nat.reduceBneDiff, Nat.reduceLT, Nat.reduceSub, decide_true, decide_false, and_self, true_and, and_true, false_and, and_false, not_true_eq_false, not_false_eq_true, false_implies, true_implies, implies_true, ge_iff_le, Bool.false_eq_true, List.cons_append, List.nil_append]
  refine callQ_self ?_ hs ?_
  · exact rfl
  simp +contextual -implicitDefEqProofs only [bne, Bool.not_true, Bool.not_false, Bool.true_and, Bool.false_and, Bool.and_true, Bool.and_false, Bool.true_or, Bool.false_or, Bool.or_true, Bool.or_false, go_sem, eI, eB, ↓reduceIte, Nat.reduceEqDiff, Nat.reduceAdd, Nat.reduceLeDiff, Nat.reduceMul, Nat.reduceBEq, Nat.reduceBneDiff, Nat.reduceLT, Nat.reduceSub, decide_true, decide_false, and_self, true_and, and_true, false_and, and_false, not_true_eq_false, not_false_eq_true, false_implies, true_implies, implies_true, ge_iff_le, Bool.false_eq_true, List.cons_append, List.nil_append]

def k_sameProg (g f1 f2 : Nat) : RC :=
 (.seq
  (.reg false [⟨none, .box 2 6 (.t 0)⟩,
    ⟨none, .box 3 6 (.t 1)⟩,
    ⟨none, .mv 4 (.c (.sc (.bool false)))⟩])
  ((.seq
   (.reg false [⟨none, .fa 5 0 (.t 2)⟩,
     ⟨none, .ld 6 false 1 (.t 5)⟩,
     ⟨none, .fa 7 0 (.t 3)⟩,
     ⟨none, .ld 8 false 1 (.t 7)⟩,
     ⟨none, .bin 9 .eql (.t 6) (.t 8)⟩,
     ⟨none, .mv 10 (.t 9)⟩,
     ⟨some (10, true), .fa 11 1 (.t 2)⟩,
     ⟨some (10, true), .ld 12 false 1 (.t 11)⟩,
     ⟨some (10, true), .fa 13 1 (.t 3)⟩,
     ⟨some (10, true), .ld 14 false 1 (.t 13)⟩,
     ⟨some (10, true), .bin 15 .eql (.t 12) (.t 14)⟩,
     ⟨none, .pick 16 (.t 10) (.t 15) (.c (.sc (.bool false)))⟩,
     ⟨none, .mv 17 (.t 16)⟩,
     ⟨some (17, true), .fa 18 2 (.t 2)⟩,
     ⟨some (17, true), .ld 19 true 3 (.t 18)⟩,
     ⟨some (17, true), .fa 20 2 (.t 3)⟩,
     ⟨some (17, true), .ld 21 true 3 (.t 20)⟩,
     ⟨some (17, true), .call (some 22) f1 [(.t 19), (.t 21)]⟩,
     ⟨none, .pick 23 (.t 17) (.t 22) (.c (.sc (.bool false)))⟩,
     ⟨none, .mv 24 (.t 23)⟩,
     ⟨some (24, true), .fa 25 5 (.t 2)⟩,
     ⟨some (24, true), .ld 26 false 1 (.t 25)⟩,
     ⟨some (24, true), .fa 27 5 (.t 3)⟩,
     ⟨some (24, true), .ld 28 false 1 (.t 27)⟩,
     ⟨some (24, true), .call (some 29) f2 [(.t 26), (.t 28), (.c (.sc (.func (.func g) #[] #[])))]⟩,
     ⟨none, .pick 30 (.t 24) (.t 29) (.c (.sc (.bool false)))⟩,
     ⟨none, .mv 4 (.t 30)⟩])
   (.ret))))
def K_sameProg (P : Program) (f : Nat) : Prop := ∀ (a b : Pg), AF P f [eP a, eP b] (.own (eB (qP a b)))
theorem a_sameProg {P : Program} (hm : P.follows .mixedOrders = true) {g f1 f2 : Nat} (hr : resF P g = some (31, k_sameProg g f1 f2, [.t 4])) (hc1 : K_sameExpr P f1) (hc2 : resF P f2 = some (32, cEfA 6 (.ag [(.sc (.int .i64 0)), (.sc (.int .i64 0)), (.sc (.int .i64 0)), (.sc (.int .i64 0)), (.ls (some true) 3 []), (.ls (some true) 6 [])]), [.t 6])) : K_sameProg P g := by
  intro a b
  revert b
  refine Pg.ind (p := fun a => ∀ b : Pg, AF P g [eP a, eP b] (.own (eB (qP a b)))) (fun k n c nn ks ih b => ?_) a
  cases b with
  | mk k' n' c' nn' ks' =>
  have hs : AF P f2 [eS 6 eP (nn, ks), eS 6 eP (nn', ks'), .sc (.func (.func g) #[] #[])] (.own (eB (eqL qP ks ks'))) := af_efA hm encP ⟨rfl, rfl⟩ rfl hc2 qP (nn, ks) (nn', ks') fun x hx y _ => ih x hx y
  rw [eP_mk, eP_mk, qP_mk]
  refine af_of_res hr hm rfl fun hb => ?_
  cases h1 : (k == k')
  · simp +contextual -implicitDefEqProofs only [k_sameProg, h1, bne, Bool.not_true, Bool.not_false, Bool.true_and, Bool.false_and, Bool.and_true, Bool.and_false, Bool.true_or, Bool.false_or, Bool.or_true, Bool.or_false, go_sem, eI, eB, ↓reduceIte, Nat.reduceEqDiff, Nat.reduceAdd, Nat.reduceLeDiff, Nat.reduceMul, Nat.reduceBEq, Nat.reduceBneDiff, Nat.reduceLT, Nat.reduceSub, decide_true, decide_false, and_self, true_and, and_true, false_and, and_false, not_true_eq_false, not_false_eq_true, false_implies, true_implies, implies_true, ge_iff_le, Bool.false_eq_true, List.cons_append, List.nil_append]
  cases h2 : (n == n')
  · simp +contextual -implicitDefEqProofs only [k_sameProg, h1, h2, bne, Bool.not_true, Bool.not_false, Bool.true_and, Bool.false_and, Bool.and_true, Bool.and_false, Bool.true_or, Bool.false_or, Bool.or_true, Bool.or_false, go_sem, eI, eB, ↓reduceIte, Nat.reduceEqDiff, Nat.reduceAdd, Nat.reduceLeDiff, Nat.reduceMul, Nat.reduceBEq, Nat.reduceBneDiff, Nat.reduceLT, Nat.reduceSub, decide_true, decide_false, and_self, true_and, and_true, false_and, and_false, not_true_eq_false, not_false_eq_true, false_implies, true_implies, implies_true, ge_iff_le, Bool.false_eq_true, List.cons_append, List.nil_append]
  simp +contextual -implicitDefEqProofs only [k_sameProg, h1, h2, bne, Bool.not_true, Bool.not_false, Bool.true_and, Bool.false_and, Bool.and_true, Bool.and_false, Bool.true_or, Bool.false_or, Bool.or_true, Bool.or_false, go_sem, eI, eB, ↓reduceIte, Nat.reduceEqDiff, Nat.reduceAdd, Nat.reduceLeDiff, Nat.reduceMul, Nat.reduceBEq, Nat.reduceBneDiff, Nat.reduceLT, Nat.reduceSub, decide_true, decide_false, and_self, true_and, and_true, false_and, and_false, not_true_eq_false, not_false_eq_true, false_implies, true_implies, implies_true, ge_iff_le, Bool.false_eq_true, List.cons_append, List.nil_append]
  refine callQ_self (ds := [eE c, eE c']) ?_ (hc1 c c') ?_
  · rw [eE_eta, eE_eta]; exact rfl
  cases h3 : qE c c'
  · simp +contextual -implicitDefEqProofs only [h3, bne, Bool.not_true, Bool.not_false, Bool.true_and, Bool.false_and, Bool.and_true, Bool.and_false, Bool.true_or, Bool.false_or, Bool.or_true, Bool.or_false, go_sem, eI, eB, ↓reduceIte, Nat.reduceEqDiff, Nat.reduceAdd, Nat.reduceLeDiff, Nat.reduceMul, Nat.reduceBEq, Nat.reduceBneDiff, Nat.reduceLT, Nat.reduceSub, decide_true, decide_false, and_self, true_and, and_true, false_and, and_false, not_true_eq_false, not_false_eq_true, false_implies, true_implies, implies_true, ge_iff_le, Bool.false_eq_true, List.cons_append, List.nil_append]
  simp +contextual -implicitDefEqProofs only [h3, bne, Bool.not_true, Bool.not_false, Bool.true_and, Bool.false_and, Bool.and_true, Bool.and_false, Bool.true_or, Bool.false_or, Bool.or_true, Bool.or_false, go_sem, eI, eB, ↓reduceIte, Nat.reduceEqDiff, Nat.reduceAdd, Nat.reduceLeDiff, Nat.reduceMul, Nat.reduceBEq, Nat.reduceBneDiff, Nat.reduceLT, Nat.reduceSub, decide_true, decide_false, and_self, true_and, and_true, false_and, and_false, not_true_eq_false, not_false_eq_true, false_implies, true_implies, implies_true, ge_iff_le, Bool.false_eq_true, List.cons_append, List.nil_append]
  refine callQ_self ?_ hs ?_
  · exact rfl
  simp +contextual -implicitDefEqProofs only [bne, Bool.not_true, Bool.not_false, Bool.true_and, Bool.false_and, Bool.and_true, Bool.and_false, Bool.true_or, Bool.false_or, Bool.or_true, Bool.or_false, go_sem, eI, eB, ↓reduceIte, Nat.reduceEqDiff, Nat.reduceAdd, Nat.reduceLeDiff, Nat.reduceMul, Nat.reduceBEq, Nat.reduceBneDiff, Nat.reduceLT, Nat.reduceSub, decide_true, decide_false, and_self, true_and, and_true, false_and, and_false, not_true_eq_false, not_false_eq_true, false_implies, true_implies, implies_true, ge_iff_le, Bool.false_eq_true, List.cons_append, List.nil_append]

def k_l06Same (g f1 : Nat) : RC :=
 (.seq
  (.reg false [⟨none, .mv 4 (.c (.sc (.bool false)))⟩])
  ((.seq
   ((.seq
    (.reg true [⟨none, .mv 6 (.t 0)⟩,
      ⟨none, .nck 7 (.t 6)⟩,
      ⟨none, .fa 8 0 (.t 7)⟩,
      ⟨none, .ld 9 false 1 (.t 8)⟩,
      ⟨none, .mv 10 (.t 1)⟩,
      ⟨none, .nck 11 (.t 10)⟩,
      ⟨none, .fa 12 0 (.t 11)⟩,
      ⟨none, .ld 13 false 1 (.t 12)⟩,
      ⟨none, .bin 14 .neq (.t 9) (.t 13)⟩,
      ⟨none, .mv 15 (.t 14)⟩,
      ⟨some (15, false), .mv 16 (.t 0)⟩,
      ⟨some (15, false), .nck 17 (.t 16)⟩,
      ⟨some (15, false), .fa 18 1 (.t 17)⟩,
      ⟨some (15, false), .ld 19 false 1 (.t 18)⟩,
      ⟨some (15, false), .mv 20 (.t 1)⟩,
      ⟨some (15, false), .nck 21 (.t 20)⟩,
      ⟨some (15, false), .fa 22 1 (.t 21)⟩,
      ⟨some (15, false), .ld 23 false 1 (.t 22)⟩,
      ⟨some (15, false), .bin 24 .neq (.t 19) (.t 23)⟩,
      ⟨none, .pick 25 (.t 15) (.c (.sc (.bool true))) (.t 24)⟩,
      ⟨none, .mv 26 (.t 25)⟩,
      ⟨some (26, false), .mv 27 (.t 0)⟩,
      ⟨some (26, false), .nck 28 (.t 27)⟩,
      ⟨some (26, false), .fa 29 5 (.t 28)⟩,
      ⟨some (26, false), .ld 30 false 1 (.t 29)⟩,
      ⟨some (26, false), .len 31 (.t 30)⟩,
      ⟨some (26, false), .mv 32 (.t 1)⟩,
      ⟨some (26, false), .nck 33 (.t 32)⟩,
      ⟨some (26, false), .fa 34 5 (.t 33)⟩,
      ⟨some (26, false), .ld 35 false 1 (.t 34)⟩,
      ⟨some (26, false), .len 36 (.t 35)⟩,
      ⟨some (26, false), .bin 37 .neq (.t 31) (.t 36)⟩,
      ⟨none, .pick 38 (.t 26) (.c (.sc (.bool true))) (.t 37)⟩,
      ⟨none, .mv 39 (.t 38)⟩,
      ⟨some (39, false), .mv 40 (.t 0)⟩,
      ⟨some (39, false), .nck 41 (.t 40)⟩,
      ⟨some (39, false), .fa 42 2 (.t 41)⟩,
      ⟨some (39, false), .mv 43 (.t 1)⟩,
      ⟨some (39, false), .nck 44 (.t 43)⟩,
      ⟨some (39, false), .fa 45 2 (.t 44)⟩,
      ⟨some (39, false), .call (some 46) f1 [(.t 42), (.t 45)]⟩,
      ⟨some (39, false), .un 47 .not (.t 46)⟩,
      ⟨none, .pick 48 (.t 39) (.c (.sc (.bool true))) (.t 47)⟩])
    (.cond (.t 48)
     ((.seq
      (.reg false [⟨none, .mv 4 (.c (.sc (.bool false)))⟩])
      (.ret)))
     (.skip))))
   ((.seq
    ((.seq
     (.reg false [⟨none, .mv 5 (.c (.sc (.int .i64 0)))⟩])
     (.blk 0
      (.loop
       ((.seq
        ((.seq
         (.reg false [⟨none, .mv 49 (.t 5)⟩,
           ⟨none, .mv 50 (.t 0)⟩,
           ⟨none, .nck 51 (.t 50)⟩,
           ⟨none, .fa 52 5 (.t 51)⟩,
           ⟨none, .ld 53 false 1 (.t 52)⟩,
           ⟨none, .len 54 (.t 53)⟩,
           ⟨none, .bin 55 .lss (.t 49) (.t 54)⟩])
         (.cond (.t 55)
          (.skip)
          (.exit 0))))
        ((.seq
         (.blk 1
          ((.seq
           (.reg true [⟨none, .mv 58 (.t 0)⟩,
             ⟨none, .nck 59 (.t 58)⟩,
             ⟨none, .fa 60 5 (.t 59)⟩,
             ⟨none, .ld 61 false 1 (.t 60)⟩,
             ⟨none, .mv 62 (.t 5)⟩,
             ⟨none, .ia 63 6 (.t 61) (.t 62)⟩,
             ⟨none, .mv 64 (.t 1)⟩,
             ⟨none, .nck 65 (.t 64)⟩,
             ⟨none, .fa 66 5 (.t 65)⟩,
             ⟨none, .ld 67 false 1 (.t 66)⟩,
             ⟨none, .mv 68 (.t 5)⟩,
             ⟨none, .ia 69 6 (.t 67) (.t 68)⟩,
             ⟨none, .call (some 70) g [(.t 63), (.t 69)]⟩,
             ⟨none, .un 71 .not (.t 70)⟩])
           (.cond (.t 71)
            ((.seq
             (.reg false [⟨none, .mv 4 (.c (.sc (.bool false)))⟩])
             (.ret)))
            (.skip)))))
         (.reg false [⟨none, .mv 56 (.t 5)⟩,
           ⟨none, .bin 57 .add (.t 56) (.c (.sc (.int .i64 1)))⟩,
           ⟨none, .mv 5 (.t 57)⟩])))))))))
    ((.seq
     (.reg false [⟨none, .mv 4 (.c (.sc (.bool true)))⟩])
     (.ret))))))))
def K_l06Same (P : Program) (f : Nat) : Prop := ∀ (a b : Pg), AF P f [.pt (eP a) 0, .pt (eP b) 0] (.own (eB (qP a b)))
theorem a_l06Same {P : Program} (hm : P.follows .mixedOrders = true) {g f1 : Nat} (hr : resF P g = some (72, k_l06Same g f1, [.t 4])) (hc1 : K_l01Same P f1) : K_l06Same P g := by
  intro a b
  revert b
  refine Pg.ind (p := fun a => ∀ b : Pg, AF P g [.pt (eP a) 0, .pt (eP b) 0] (.own (eB (qP a b)))) (fun k n c nn ks ih b => ?_) a
  cases b with
  | mk k' n' c' nn' ks' =>
  rw [eP_mk, eP_mk, qP_mk]
  refine af_of_res hr hm rfl fun hb => ?_
  have hl : ks.length ≤ 9223372036854775807 := by
    have := hb.1
    simp only [D.bd, D.bdL, List.length_map, maxEl] at this
    exact this.2.2.2.2.2.1.1
  cases h1 : (k == k')
  · simp +contextual -implicitDefEqProofs only [k_l06Same, h1, bne, Bool.not_true, Bool.not_false, Bool.true_and, Bool.false_and, Bool.and_true, Bool.and_false, Bool.true_or, Bool.false_or, Bool.or_true, Bool.or_false, go_sem, eI, eB, ↓reduceIte, Nat.reduceEqDiff, Nat.reduceAdd, Nat.reduceLeDiff, Nat.reduceMul, Nat.reduceBEq, Nat.reduceBneDiff, Nat.reduceLT, Nat.reduceSub, decide_true, decide_false, and_self, true_and, and_true, false_and, and_false, not_true_eq_false, not_false_eq_true, false_implies, true_implies, implies_true, ge_iff_le, Bool.false_eq_true, List.cons_append, List.nil_append]
  cases h2 : (n == n')
  · simp +contextual -implicitDefEqProofs only [k_l06Same, h1, h2, bne, Bool.not_true, Bool.not_false, Bool.true_and, Bool.false_and, Bool.and_true, Bool.and_false, Bool.true_or, Bool.false_or, Bool.or_true, Bool.or_false, go_sem, eI, eB, ↓reduceIte, Nat.reduceEqDiff, Nat.reduceAdd, Nat.reduceLeDiff, Nat.reduceMul, Nat.reduceBEq, Nat.reduceBneDiff, Nat.reduceLT, Nat.reduceSub, decide_true, decide_false, and_self, true_and, and_true, false_and, and_false, not_true_eq_false, not_false_eq_true, false_implies, true_implies, implies_true, ge_iff_le, Bool.false_eq_true, List.cons_append, List.nil_append]
  cases h0 : ((ks.length : Int) == ks'.length)
  · simp +contextual -implicitDefEqProofs only [k_l06Same, h0, h1, h2, List.length_map, eqL_len (show ks.length ≠ ks'.length by simp at h0; omega), bne, Bool.not_true, Bool.not_false, Bool.true_and, Bool.false_and, Bool.and_true, Bool.and_false, Bool.true_or, Bool.false_or, Bool.or_true, Bool.or_false, go_sem, eI, eB, ↓reduceIte, Nat.reduceEqDiff, Nat.reduceAdd, Nat.reduceLeDiff, Nat.reduceMul, Nat.reduceBEq, Nat.reduceBneDiff, Nat.reduceLT, Nat.reduceSub, decide_true, decide_false, and_self, true_and, and_true, false_and, and_false, not_true_eq_false, not_false_eq_true, false_implies, true_implies, implies_true, ge_iff_le, Bool.false_eq_true, List.cons_append, List.nil_append]
  have hlen : ks.length = ks'.length := by simp at h0; omega
  simp +contextual -implicitDefEqProofs only [k_l06Same, h0, h1, h2, List.length_map, bne, Bool.not_true, Bool.not_false, Bool.true_and, Bool.false_and, Bool.and_true, Bool.and_false, Bool.true_or, Bool.false_or, Bool.or_true, Bool.or_false, go_sem, eI, eB, ↓reduceIte, Nat.reduceEqDiff, Nat.reduceAdd, Nat.reduceLeDiff, Nat.reduceMul, Nat.reduceBEq, Nat.reduceBneDiff, Nat.reduceLT, Nat.reduceSub, decide_true, decide_false, and_self, true_and, and_true, false_and, and_false, not_true_eq_false, not_false_eq_true, false_implies, true_implies, implies_true, ge_iff_le, Bool.false_eq_true, List.cons_append, List.nil_append]
  refine callQ_le (es := [.pt (eE c) 0, .pt (eE c') 0]) rfl ⟨D.LeA.sub (sz := 3) (by simp [D.size, D.sizeL]) rfl (by omega) (by rw [eE_eta]; rfl), D.LeA.sub (sz := 3) (by simp [D.size, D.sizeL]) rfl (by omega) (by rw [eE_eta]; rfl), trivial⟩ (hc1 c c') ?_
  cases h3 : qE c c'
  · simp +contextual -implicitDefEqProofs only [h3, bne, Bool.not_true, Bool.not_false, Bool.true_and, Bool.false_and, Bool.and_true, Bool.and_false, Bool.true_or, Bool.false_or, Bool.or_true, Bool.or_false, go_sem, eI, eB, ↓reduceIte, Nat.reduceEqDiff, Nat.reduceAdd, Nat.reduceLeDiff, Nat.reduceMul, Nat.reduceBEq, Nat.reduceBneDiff, Nat.reduceLT, Nat.reduceSub, decide_true, decide_false, and_self, true_and, and_true, false_and, and_false, not_true_eq_false, not_false_eq_true, false_implies, true_implies, implies_true, ge_iff_le, Bool.false_eq_true, List.cons_append, List.nil_append]
  simp +contextual -implicitDefEqProofs only [h3, List.length_map, bne, Bool.not_true, Bool.not_false, Bool.true_and, Bool.false_and, Bool.and_true, Bool.and_false, Bool.true_or, Bool.false_or, Bool.or_true, Bool.or_false, go_sem, eI, eB, ↓reduceIte, Nat.reduceEqDiff, Nat.reduceAdd, Nat.reduceLeDiff, Nat.reduceMul, Nat.reduceBEq, Nat.reduceBneDiff, Nat.reduceLT, Nat.reduceSub, decide_true, decide_false, and_self, true_and, and_true, false_and, and_false, not_true_eq_false, not_false_eq_true, false_implies, true_implies, implies_true, ge_iff_le, Bool.false_eq_true, List.cons_append, List.nil_append]
  refine vc_on (α := Nat) [4, 5, 49, 50, 51, 52, 53, 54, 55, 56, 57, 58, 59, 60, 61, 62, 63, 64, 65, 66, 67, 68, 69, 70, 71] (fun i => [(5, .im none (.sc (.int .i64 i)))]) (fun i => i ≤ ks.length ∧ eqL qP (ks.drop i) (ks'.drop i) = eqL qP ks ks') (fun i => ks.length - i) 0
    (by simp only [subEnv, go_sem, ↓reduceIte, Nat.reduceEqDiff]; simp) ⟨by simp, by simp⟩ ?_
  rintro i ⟨j1, j4⟩
  by_cases hi : i < ks.length
  · have hi2 : i < ks'.length := by omega
    have e1 := at_map (f := eP) hi
    have e2 := at_map (f := eP) hi2
    rw [List.drop_eq_getElem_cons hi, List.drop_eq_getElem_cons hi2] at j4
    simp only [eqL] at j4
    simp +contextual -implicitDefEqProofs only [e1, e2, hi, hi2, eP_size, Int.ofNat_lt, List.length_map, Int.natCast_nonneg, Nat.zero_lt_one, go_sem, eI, eB, ↓reduceIte, Nat.reduceEqDiff, Nat.reduceAdd, Nat.reduceLeDiff, Nat.reduceMul, Nat.reduceBEq, Nat.reduceBneDiff, Nat.reduceLT, Nat.reduceSub, decide_true, decide_false, and_self, true_and, and_true, false_and, and_false, not_true_eq_false, not_false_eq_true, false_implies, true_implies, implies_true, ge_iff_le, Bool.false_eq_true, List.cons_append, List.nil_append]
    refine callQ_self ?_ (ih ks[i] (List.getElem_mem _) ks'[i]) ?_
    · exact rfl
    cases h : qP ks[i] ks'[i]
    · simp +contextual -implicitDefEqProofs only [eI, eB, Bool.not_false, go_sem, eI, eB, ↓reduceIte, Nat.reduceEqDiff, Nat.reduceAdd, Nat.reduceLeDiff, Nat.reduceMul, Nat.reduceBEq, Nat.reduceBneDiff, Nat.reduceLT, Nat.reduceSub, decide_true, decide_false, and_self, true_and, and_true, false_and, and_false, not_true_eq_false, not_false_eq_true, false_implies, true_implies, implies_true, ge_iff_le, Bool.false_eq_true, List.cons_append, List.nil_append]
      exact D.Le.sc_eq (by rw [← j4, h]; rfl)
    · simp +contextual -implicitDefEqProofs only [eI, eB, Bool.not_true, go_sem, eI, eB, ↓reduceIte, Nat.reduceEqDiff, Nat.reduceAdd, Nat.reduceLeDiff, Nat.reduceMul, Nat.reduceBEq, Nat.reduceBneDiff, Nat.reduceLT, Nat.reduceSub, decide_true, decide_false, and_self, true_and, and_true, false_and, and_false, not_true_eq_false, not_false_eq_true, false_implies, true_implies, implies_true, ge_iff_le, Bool.false_eq_true, List.cons_append, List.nil_append]
      rw [wrap_i64 (by omega) (by omega)]
      exact ⟨i + 1, ⟨by omega, eqL_step j4 h⟩, by omega, Ent.env (by simp only [subEnv, go_sem, ↓reduceIte, Nat.reduceEqDiff, List.length_map]; simp)⟩
  · simp +contextual -implicitDefEqProofs only [hi, Int.ofNat_lt, List.length_map, Int.natCast_nonneg, go_sem, eI, eB, ↓reduceIte, Nat.reduceEqDiff, Nat.reduceAdd, Nat.reduceLeDiff, Nat.reduceMul, Nat.reduceBEq, Nat.reduceBneDiff, Nat.reduceLT, Nat.reduceSub, decide_true, decide_false, and_self, true_and, and_true, false_and, and_false, not_true_eq_false, not_false_eq_true, false_implies, true_implies, implies_true, ge_iff_le, Bool.false_eq_true, List.cons_append, List.nil_append]
    refine D.Le.sc_eq ?_
    rw [← j4, List.drop_eq_nil_of_le (by omega), List.drop_eq_nil_of_le (by omega)]
    rfl

def k_spSameProg (f1 : Nat) : RC :=
 (.seq
  (.reg false [⟨none, .box 2 6 (.t 0)⟩,
    ⟨none, .box 3 6 (.t 1)⟩,
    ⟨none, .mv 4 (.c (.sc (.bool false)))⟩])
  ((.seq
   (.reg false [⟨none, .call (some 5) f1 [(.t 2), (.t 3)]⟩,
     ⟨none, .mv 4 (.t 5)⟩])
   (.ret))))
def K_spSameProg (P : Program) (f : Nat) : Prop := ∀ (a b : Pg), AF P f [eP a, eP b] (.own (eB (qP a b)))
theorem a_spSameProg {P : Program} (hm : P.follows .mixedOrders = true) {g f1 : Nat} (hr : resF P g = some (6, k_spSameProg f1, [.t 4])) (hc1 : K_l06Same P f1) : K_spSameProg P g := by
  intro a b
  have e1 : eP a = .ag [.sc (.int .i64 a.k), .sc (.int .i64 a.n), .sc (.int .i64 a.c.k), .sc (.int .i64 a.c.n), .ls a.c.nn 3 (a.c.ks.map eE), .ls a.nn 6 (a.ks.map eP)] := eP_eta a
  have e2 : eP b = .ag [.sc (.int .i64 b.k), .sc (.int .i64 b.n), .sc (.int .i64 b.c.k), .sc (.int .i64 b.c.n), .ls b.c.nn 3 (b.c.ks.map eE), .ls b.nn 6 (b.ks.map eP)] := eP_eta b
  rw [e1, e2]
  refine af_of_res hr hm rfl fun hb => ?_
  simp +contextual -implicitDefEqProofs only [k_spSameProg, go_sem, eI, eB, ↓reduceIte, Nat.reduceEqDiff, Nat.reduceAdd, Nat.reduceLeDiff, Nat.reduceMul, Nat.reduceBEq, Nat.reduceBneDiff, Nat.reduceLT, Nat.reduceSub, decide_true, decide_false, and_self, true_and, and_true, false_and, and_false, not_true_eq_false, not_false_eq_true, false_implies, true_implies, implies_true, ge_iff_le, Bool.false_eq_true, List.cons_append, List.nil_append]
  refine callQ_self (ds := [.pt (eP a) 0, .pt (eP b) 0]) ?_ (hc1 a b) ?_
  · rw [e1, e2]; exact rfl
  simp +contextual -implicitDefEqProofs only [go_sem, eI, eB, ↓reduceIte, Nat.reduceEqDiff, Nat.reduceAdd, Nat.reduceLeDiff, Nat.reduceMul, Nat.reduceBEq, Nat.reduceBneDiff, Nat.reduceLT, Nat.reduceSub, decide_true, decide_false, and_self, true_and, and_true, false_and, and_false, not_true_eq_false, not_false_eq_true, false_implies, true_implies, implies_true, ge_iff_le, Bool.false_eq_true, List.cons_append, List.nil_append]
end Go.Ax
