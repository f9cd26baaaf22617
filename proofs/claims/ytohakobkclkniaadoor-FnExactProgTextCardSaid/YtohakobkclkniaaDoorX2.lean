/- Contracts of functions of the seat, proved over the engine. No condition. -/
import Derived.Test.YtohakobkclkniaaDoorAxXP
set_option linter.unusedSimpArgs false
set_option linter.unusedVariables false
set_option linter.unnecessarySimpa false
namespace Go.Ax
set_option linter.unusedSimpArgs false
def Pg.k : Pg → Int | .mk k _ _ _ _ => k
def Pg.n : Pg → Int | .mk _ n _ _ _ => n
def Pg.c : Pg → Ex | .mk _ _ c _ _ => c
def Pg.nn : Pg → Option Bool | .mk _ _ _ nn _ => nn
def Pg.ks : Pg → List Pg | .mk _ _ _ _ ks => ks
theorem eP_eta (a : Pg) : eP a = .ag [.sc (.int .i64 a.k), .sc (.int .i64 a.n), .sc (.int .i64 a.c.k), .sc (.int .i64 a.c.n), .ls a.c.nn 3 (a.c.ks.map eE), .ls a.nn 6 (a.ks.map eP)] := by cases a; rw [eP_mk]; rfl
theorem eE_t (c : Ex) : eE (tE c) = .ag [.sc (.int .i64 c.k), .sc (.int .i64 c.n), .ls (some false) 3 ((c.ks.map tE).map eE)] := by cases c; rw [tE_mk, eE_mk]; rfl
def k_szProg (f1 f2 : Nat) : RC := (.seq (.reg false [⟨none, .box 2 6 (.t 0)⟩, ⟨none, .mv 4 (.c (.sc (.int .i64 0)))⟩]) ((.seq (.reg false [⟨none, .fa 5 2 (.t 2)⟩, ⟨none, .ld 6 true 3 (.t 5)⟩, ⟨none, .mv 7 (.t 1)⟩, ⟨none, .call (some 8) f1 [(.t 6), (.t 7)]⟩, ⟨none, .mv 1 (.t 8)⟩]) ((.seq ((.seq (.reg false [⟨none, .mv 9 (.t 1)⟩, ⟨none, .bin 10 .lss (.t 9) (.c (.sc (.int .i64 0)))⟩]) (.cond (.t 10) ((.seq (.reg false [⟨none, .mv 4 (.c (.sc (.int .i64 (-1))))⟩]) (.ret))) (.skip)))) ((.seq (.reg false [⟨none, .fa 11 5 (.t 2)⟩, ⟨none, .ld 12 false 1 (.t 11)⟩, ⟨none, .mv 13 (.t 1)⟩, ⟨none, .call (some 14) f2 [(.t 12), (.t 13)]⟩, ⟨none, .mv 1 (.t 14)⟩]) ((.seq ((.seq (.reg false [⟨none, .mv 15 (.t 1)⟩, ⟨none, .bin 16 .lss (.t 15) (.c (.sc (.int .i64 0)))⟩]) (.cond (.t 16) ((.seq (.reg false [⟨none, .mv 4 (.c (.sc (.int .i64 (-1))))⟩]) (.ret))) (.skip)))) ((.seq (.reg false [⟨none, .mv 17 (.t 1)⟩, ⟨none, .mv 4 (.t 17)⟩]) (.ret))))))))))))
def k_toProg (f1 f2 : Nat) : RC := (.seq (.reg false [⟨none, .box 1 6 (.t 0)⟩, ⟨none, .zer 2 6 (.ag [(.sc (.int .i64 0)), (.sc (.int .i64 0)), (.sc (.int .i64 0)), (.sc (.int .i64 0)), (.ls (some true) 3 []), (.ls (some true) 6 [])])⟩]) ((.seq (.reg false [⟨none, .zer 3 6 (.ag [(.sc (.int .i64 0)), (.sc (.int .i64 0)), (.sc (.int .i64 0)), (.sc (.int .i64 0)), (.ls (some true) 3 []), (.ls (some true) 6 [])])⟩]) ((.seq (.reg false [⟨none, .fa 4 0 (.t 1)⟩, ⟨none, .ld 5 false 1 (.t 4)⟩, ⟨none, .fa 6 0 (.t 3)⟩, ⟨none, .st 1 (.t 6) (.t 5)⟩]) ((.seq (.reg false [⟨none, .fa 7 1 (.t 1)⟩, ⟨none, .ld 8 false 1 (.t 7)⟩, ⟨none, .fa 9 1 (.t 3)⟩, ⟨none, .st 1 (.t 9) (.t 8)⟩]) ((.seq (.reg false [⟨none, .fa 10 2 (.t 1)⟩, ⟨none, .ld 11 true 3 (.t 10)⟩, ⟨none, .call (some 12) f1 [(.t 11)]⟩, ⟨none, .fa 13 2 (.t 3)⟩, ⟨none, .st 3 (.t 13) (.t 12)⟩]) ((.seq (.reg false [⟨none, .fa 14 5 (.t 1)⟩, ⟨none, .ld 15 false 1 (.t 14)⟩, ⟨none, .call (some 16) f2 [(.t 15)]⟩, ⟨none, .fa 17 5 (.t 3)⟩, ⟨none, .st 1 (.t 17) (.t 16)⟩]) ((.seq (.reg false [⟨none, .ld 18 true 6 (.t 3)⟩, ⟨none, .st 6 (.t 2) (.t 18)⟩]) (.ret))))))))))))))
def k_eqProg (f1 f2 : Nat) : RC := (.seq (.reg false [⟨none, .box 2 6 (.t 0)⟩, ⟨none, .box 3 6 (.t 1)⟩, ⟨none, .mv 4 (.c (.sc (.bool false)))⟩]) ((.seq ((.seq (.reg false [⟨none, .fa 5 0 (.t 2)⟩, ⟨none, .ld 6 false 1 (.t 5)⟩, ⟨none, .fa 7 0 (.t 3)⟩, ⟨none, .ld 8 false 1 (.t 7)⟩, ⟨none, .bin 9 .neq (.t 6) (.t 8)⟩]) (.cond (.t 9) ((.seq (.reg false [⟨none, .mv 4 (.c (.sc (.bool false)))⟩]) (.ret))) (.skip)))) ((.seq ((.seq (.reg false [⟨none, .fa 10 1 (.t 2)⟩, ⟨none, .ld 11 false 1 (.t 10)⟩, ⟨none, .fa 12 1 (.t 3)⟩, ⟨none, .ld 13 false 1 (.t 12)⟩, ⟨none, .bin 14 .neq (.t 11) (.t 13)⟩]) (.cond (.t 14) ((.seq (.reg false [⟨none, .mv 4 (.c (.sc (.bool false)))⟩]) (.ret))) (.skip)))) ((.seq ((.seq (.reg false [⟨none, .fa 15 2 (.t 2)⟩, ⟨none, .ld 16 true 3 (.t 15)⟩, ⟨none, .fa 17 2 (.t 3)⟩, ⟨none, .ld 18 true 3 (.t 17)⟩, ⟨none, .call (some 19) f1 [(.t 16), (.t 18)]⟩, ⟨none, .un 20 .not (.t 19)⟩]) (.cond (.t 20) ((.seq (.reg false [⟨none, .mv 4 (.c (.sc (.bool false)))⟩]) (.ret))) (.skip)))) ((.seq ((.seq (.reg false [⟨none, .fa 21 5 (.t 2)⟩, ⟨none, .ld 22 false 1 (.t 21)⟩, ⟨none, .fa 23 5 (.t 3)⟩, ⟨none, .ld 24 false 1 (.t 23)⟩, ⟨none, .call (some 25) f2 [(.t 22), (.t 24)]⟩, ⟨none, .un 26 .not (.t 25)⟩]) (.cond (.t 26) ((.seq (.reg false [⟨none, .mv 4 (.c (.sc (.bool false)))⟩]) (.ret))) (.skip)))) ((.seq (.reg false [⟨none, .mv 4 (.c (.sc (.bool true)))⟩]) (.ret))))))))))))
section
variable {P : Program} (hm : P.follows .mixedOrders = true)
include hm
theorem af_szProg {g f1 f2 a b : Nat} (F : Fam P eE f1 a b) (rs : resF P g = some (18, k_szProg f1 f2, [.t 4])) (rss : resF P f2 = some (27, cSzC g 6 true, [.t 4])) (hF : ∀ e l, F.s e l = szE e l) :
  ∀ (e : Pg) (l : Int), 0 ≤ l → l ≤ 1048576 → AF P g [eP e, eI l] (.own (eI (szP e l))) :=
 Pg.ind fun k n c nn ks ih l h1 h2 => by
  have b := szE_in c l h1 h2
  have h0 := F.afS c l h1 h2
  rw [hF] at h0
  rw [eP_mk, szP_mk]
  refine af_of_res rs hm rfl fun _ => ?_
  simp +contextual -implicitDefEqProofs only [k_szProg, eS, go_sem, eI, eB, ↓reduceIte, Nat.reduceEqDiff, Nat.reduceAdd, Nat.reduceLeDiff, Nat.reduceMul, Nat.reduceBEq, Nat.reduceBneDiff, Nat.reduceLT, Nat.reduceSub]
  refine callQ_self (ds := [eE c, eI l]) ?_ h0 ?_
  ·rw [eE_eta]; exact rfl
  simp +contextual -implicitDefEqProofs only [eS, go_sem, eI, eB, ↓reduceIte, Nat.reduceEqDiff, Nat.reduceAdd, Nat.reduceLeDiff, Nat.reduceMul, Nat.reduceBEq, Nat.reduceBneDiff, Nat.reduceLT, Nat.reduceSub]
  refine ⟨fun h => D.Le.sc_eq (by rw [nx_neg h]), fun h => ?_⟩
  have hs : AF P f2 [eS 6 eP (nn, ks), eI (szE c l)] (.own (eI (szS szP (nn, ks) (szE c l)))) := af_szC hm encP rss szP (nn, ks) (fun x hx l g1 g2 => ⟨ih x hx l g1 g2, (szP_in x l g1 g2).1, by have := (szP_in x l g1 g2).2; omega⟩) (szE c l) (by omega) (by omega)
  refine callQ_self ?_ hs ?_
  ·exact rfl
  simp +contextual -implicitDefEqProofs only [eS, go_sem, eI, eB, ↓reduceIte, Nat.reduceEqDiff, Nat.reduceAdd, Nat.reduceLeDiff, Nat.reduceMul, Nat.reduceBEq, Nat.reduceBneDiff, Nat.reduceLT, Nat.reduceSub]
  exact ⟨fun h' => D.Le.sc_eq (by rw [nx_pos h, nx_neg h']), fun h' => D.Le.sc_eq (by rw [nx_pos h, nx_pos h'])⟩
theorem af_toProg {g f1 f2 a b : Nat} (F : Fam P eE a f1 b) (rs : resF P g = some (19, k_toProg f1 f2, [.c 2 6 true])) (rss : resF P f2 = some (23, cToC g 6 80 true (.ag [(.sc (.int .i64 0)), (.sc (.int .i64 0)), (.sc (.int .i64 0)), (.sc (.int .i64 0)), (.ls (some true) 3 []), (.ls (some true) 6 [])]), [.t 2])) (hF : ∀ e, fitE e → F.fit e) (hT : ∀ e, F.t e = tE e) :
  ∀ e : Pg, fitP e → AF P g [eP e] (.own (eP (tP e))) :=
 Pg.ind fun k n c nn ks ih h => by
  rw [fitP_mk] at h
  have h0 := F.afT c (hF c h.1)
  rw [hT, eE_t] at h0
  have hs : AF P f2 [eS 6 eP (nn, ks)] (.own (eS 6 eP (some false, ks.map tP))) := af_toC hm encP encP ⟨rfl, rfl, rfl⟩ rss (nn, ks) (by have := h.2.1; simp only; omega) fun x hx => ih x hx (h.2.2 x hx)
  have e1 : eP (tP (.mk k n c nn ks)) = .ag [.sc (.int .i64 k), .sc (.int .i64 n), .sc (.int .i64 c.k), .sc (.int .i64 c.n), .ls (some false) 3 ((c.ks.map tE).map eE), .ls (some false) 6 ((ks.map tP).map eP)] := by
   rw [tP_mk, eP_mk]; cases c; rw [tE_mk]; rfl
  rw [e1, eP_mk]
  refine af_of_res rs hm rfl fun _ => ?_
  simp +contextual -implicitDefEqProofs only [k_toProg, eS, go_sem, eI, eB, ↓reduceIte, Nat.reduceEqDiff, Nat.reduceAdd, Nat.reduceLeDiff, Nat.reduceMul, Nat.reduceBEq, Nat.reduceBneDiff, Nat.reduceLT, Nat.reduceSub]
  refine callQ_self (ds := [eE c]) ?_ h0 ?_
  ·rw [eE_eta]; exact rfl
  simp +contextual -implicitDefEqProofs only [eS, go_sem, eI, eB, ↓reduceIte, Nat.reduceEqDiff, Nat.reduceAdd, Nat.reduceLeDiff, Nat.reduceMul, Nat.reduceBEq, Nat.reduceBneDiff, Nat.reduceLT, Nat.reduceSub]
  refine callQ_self ?_ hs ?_
  ·exact rfl
  simp +contextual -implicitDefEqProofs only [eS, go_sem, eI, eB, ↓reduceIte, Nat.reduceEqDiff, Nat.reduceAdd, Nat.reduceLeDiff, Nat.reduceMul, Nat.reduceBEq, Nat.reduceBneDiff, Nat.reduceLT, Nat.reduceSub]

theorem af_eqProg {g f1 f2 a b : Nat} (F : Fam P eE a b f1) (rs : resF P g = some (27, k_eqProg f1 f2, [.t 4])) (rss : resF P f2 = some (27, cEqC g 6 true, [.t 4])) (hF : ∀ x y, F.q x y = qE x y) :
  ∀ a b : Pg, AF P g [eP a, eP b] (.own (eB (qP a b))) :=
 Pg.ind fun k n c nn ks ih b => by
  cases b with
  | mk k' n' c' nn' ks' =>
  have h0 := F.afQ c c'
  rw [hF] at h0
  have hs : AF P f2 [eS 6 eP (nn, ks), eS 6 eP (nn', ks')] (.own (eB (eqL qP ks ks'))) := af_eqC hm encP rss qP (nn, ks) (nn', ks') fun x hx y _ => ih x hx y
  rw [eP_mk, eP_mk, qP_mk]
  refine af_of_res rs hm rfl fun _ => ?_
  cases h1 : (k == k')
  ·simp +contextual -implicitDefEqProofs only [k_eqProg, eS, h1, bne, Bool.not_true, Bool.not_false, Bool.true_and, Bool.false_and, Bool.and_true, Bool.and_false, Bool.true_or, Bool.false_or, Bool.or_true, Bool.or_false, go_sem, eI, eB, ↓reduceIte, Nat.reduceEqDiff, Nat.reduceAdd, Nat.reduceLeDiff, Nat.reduceMul, Nat.reduceBEq, Nat.reduceBneDiff, Nat.reduceLT, Nat.reduceSub]
  cases h2 : (n == n')
  ·simp +contextual -implicitDefEqProofs only [k_eqProg, eS, h1, h2, bne, Bool.not_true, Bool.not_false, Bool.true_and, Bool.false_and, Bool.and_true, Bool.and_false, Bool.true_or, Bool.false_or, Bool.or_true, Bool.or_false, go_sem, eI, eB, ↓reduceIte, Nat.reduceEqDiff, Nat.reduceAdd, Nat.reduceLeDiff, Nat.reduceMul, Nat.reduceBEq, Nat.reduceBneDiff, Nat.reduceLT, Nat.reduceSub]
  simp +contextual -implicitDefEqProofs only [k_eqProg, eS, h1, h2, bne, Bool.not_true, Bool.not_false, Bool.true_and, Bool.false_and, Bool.and_true, Bool.and_false, Bool.true_or, Bool.false_or, Bool.or_true, Bool.or_false, go_sem, eI, eB, ↓reduceIte, Nat.reduceEqDiff, Nat.reduceAdd, Nat.reduceLeDiff, Nat.reduceMul, Nat.reduceBEq, Nat.reduceBneDiff, Nat.reduceLT, Nat.reduceSub]
  refine callQ_self (ds := [eE c, eE c']) ?_ h0 ?_
  ·rw [eE_eta, eE_eta]; exact rfl
  cases h4 : qE c c'
  ·simp +contextual -implicitDefEqProofs only [eS, h4, bne, Bool.not_true, Bool.not_false, Bool.true_and, Bool.false_and, Bool.and_true, Bool.and_false, Bool.true_or, Bool.false_or, Bool.or_true, Bool.or_false, go_sem, eI, eB, ↓reduceIte, Nat.reduceEqDiff, Nat.reduceAdd, Nat.reduceLeDiff, Nat.reduceMul, Nat.reduceBEq, Nat.reduceBneDiff, Nat.reduceLT, Nat.reduceSub]
  simp +contextual -implicitDefEqProofs only [eS, h4, bne, Bool.not_true, Bool.not_false, Bool.true_and, Bool.false_and, Bool.and_true, Bool.and_false, Bool.true_or, Bool.false_or, Bool.or_true, Bool.or_false, go_sem, eI, eB, ↓reduceIte, Nat.reduceEqDiff, Nat.reduceAdd, Nat.reduceLeDiff, Nat.reduceMul, Nat.reduceBEq, Nat.reduceBneDiff, Nat.reduceLT, Nat.reduceSub]
  refine callQ_self ?_ hs ?_
  ·exact rfl
  cases h3 : eqL qP ks ks'
  ·simp +contextual -implicitDefEqProofs only [eS, h3, bne, Bool.not_true, Bool.not_false, Bool.true_and, Bool.false_and, Bool.and_true, Bool.and_false, Bool.true_or, Bool.false_or, Bool.or_true, Bool.or_false, go_sem, eI, eB, ↓reduceIte, Nat.reduceEqDiff, Nat.reduceAdd, Nat.reduceLeDiff, Nat.reduceMul, Nat.reduceBEq, Nat.reduceBneDiff, Nat.reduceLT, Nat.reduceSub]
  ·simp +contextual -implicitDefEqProofs only [eS, h3, bne, Bool.not_true, Bool.not_false, Bool.true_and, Bool.false_and, Bool.and_true, Bool.and_false, Bool.true_or, Bool.false_or, Bool.or_true, Bool.or_false, go_sem, eI, eB, ↓reduceIte, Nat.reduceEqDiff, Nat.reduceAdd, Nat.reduceLeDiff, Nat.reduceMul, Nat.reduceBEq, Nat.reduceBneDiff, Nat.reduceLT, Nat.reduceSub]

def famPg {sE tE' qE' sF tF qF sG tG qG : Nat} (F : Fam P eE sE tE' qE') (hF : F.s = szE ∧ F.t = tE ∧ F.q = qE ∧ F.fit = fitE)
  (r1 : resF P sF = some (18, k_szProg sE sG, [.t 4])) (r2 : resF P sG = some (27, cSzC sF 6 true, [.t 4]))
  (r3 : resF P tF = some (19, k_toProg tE' tG, [.c 2 6 true])) (r4 : resF P tG = some (23, cToC tF 6 80 true (.ag [(.sc (.int .i64 0)), (.sc (.int .i64 0)), (.sc (.int .i64 0)), (.sc (.int .i64 0)), (.ls (some true) 3 []), (.ls (some true) 6 [])]), [.t 2]))
  (r5 : resF P qF = some (27, k_eqProg qE' qG, [.t 4])) (r6 : resF P qG = some (27, cEqC qF 6 true, [.t 4])) : Fam P eP sF tF qF where
 s := szP
 t := tP
 q := qP
 fit := fitP
 s_in := szP_in
 s_fit := szP_fit
 q_refl := qP_refl
 afS := af_szProg hm F r1 r2 fun e l => by rw [hF.1]
 afT := af_toProg hm F r3 r4 (fun e h => by rw [hF.2.2.2]; exact h) fun e => by rw [hF.2.1]
 afQ := af_eqProg hm F r5 r6 fun x y => by rw [hF.2.2.1]
end

end Go.Ax
