/- Contracts of functions of the seat, proved over the engine. No condition. -/
import Derived.Test.YtmcbkgcnlopjiaaXxA
import Derived.Test.YtmcbkgcnlopjiaaEnH
import Derived.Test.YtmcbkgcnlopjiaaXxB
set_option linter.unusedSimpArgs false
set_option linter.unusedVariables false
set_option linter.unnecessarySimpa false
namespace Go.Ax
def Pg.k : Pg → Int | .mk k _ _ _ _ => k
def Pg.n : Pg → Int | .mk _ n _ _ _ => n
def Pg.c : Pg → Ex | .mk _ _ c _ _ => c
def Pg.nn : Pg → Option Bool | .mk _ _ _ nn _ => nn
def Pg.ks : Pg → List Pg | .mk _ _ _ _ ks => ks
theorem eE_t (c : Ex) : eE (tE c) = .ag [.sc (.int .i64 c.k), .sc (.int .i64 c.n), .ls (some false) 3 ((c.ks.map tE).map eE)] := by cases c; rw [tE_mk, eE_mk]; rfl
def k_szProg (f1 f2 : Nat) : RC := (.seq (.r [.b 2 6 0, .v 4 (.ci 0)]) (.seq (.r [.f 5 2 2, .L 6 3 5, .m 7 1, .c 8 f1 [.t 6, .t 7], .m 1 8]) (.seq (.seq (.r [.m 9 1, .o (.bin 10 .lss (.t 9) (.ci 0))]) (.cond (.t 10) (.seq (.r [.o (.mv 4 (.c (.sc (.int .i64 (-1)))))]) .ret) .skip)) (.seq (.r [.f 11 5 2, .l 12 1 11, .m 13 1, .c 14 f2 [.t 12, .t 13], .m 1 14]) (.seq (.seq (.r [.m 15 1, .o (.bin 16 .lss (.t 15) (.ci 0))]) (.cond (.t 16) (.seq (.r [.o (.mv 4 (.c (.sc (.int .i64 (-1)))))]) .ret) .skip)) (.seq (.r [.m 17 1, .m 4 17]) .ret))))))
def k_toProg (f1 f2 : Nat) : RC := (.seq (.r [.b 1 6 0, .o (.zer 2 6 .zp)]) (.seq (.r [.o (.zer 3 6 .zp)]) (.seq (.r [.f 4 0 1, .l 5 1 4, .f 6 0 3, .s 1 6 5]) (.seq (.r [.f 7 1 1, .l 8 1 7, .f 9 1 3, .s 1 9 8]) (.seq (.r [.f 10 2 1, .L 11 3 10, .c 12 f1 [.t 11], .f 13 2 3, .s 3 13 12]) (.seq (.r [.f 14 5 1, .l 15 1 14, .c 16 f2 [.t 15], .f 17 5 3, .s 1 17 16]) (.seq (.r [.L 18 6 3, .s 6 2 18]) .ret)))))))
def k_eqProg (f1 f2 : Nat) : RC := (.seq (.r [.b 2 6 0, .b 3 6 1, .v 4 .cf]) (.seq (.seq (.r [.f 5 0 2, .l 6 1 5, .f 7 0 3, .l 8 1 7, .o (.bin 9 .neq (.t 6) (.t 8))]) (.cond (.t 9) (.seq (.r [.v 4 .cf]) .ret) .skip)) (.seq (.seq (.r [.f 10 1 2, .l 11 1 10, .f 12 1 3, .l 13 1 12, .o (.bin 14 .neq (.t 11) (.t 13))]) (.cond (.t 14) (.seq (.r [.v 4 .cf]) .ret) .skip)) (.seq (.seq (.r [.f 15 2 2, .L 16 3 15, .f 17 2 3, .L 18 3 17, .c 19 f1 [.t 16, .t 18], .o (.un 20 .not (.t 19))]) (.cond (.t 20) (.seq (.r [.v 4 .cf]) .ret) .skip)) (.seq (.seq (.r [.f 21 5 2, .l 22 1 21, .f 23 5 3, .l 24 1 23, .c 25 f2 [.t 22, .t 24], .o (.un 26 .not (.t 25))]) (.cond (.t 26) (.seq (.r [.v 4 .cf]) .ret) .skip)) (.seq (.r [.v 4 .ct]) .ret))))))
section
variable {P : Program} (hm : P.follows .mixedOrders = true)
include hm
theorem af_szProg {g f1 f2 a b : Nat} (F : Fam P eE f1 a b) (rs : resF P g = some (18, k_szProg f1 f2, [.t 4])) (rss : resF P f2 = some (27, cSzC g 6 true, [.t 4])) (hF : ∀ e l, F.s e l = szE e l) :
  ∀ (e : Pg) (l : Int), 0 ≤ l → l ≤ 1048576 → AF P g [eP e, eI l] (.own (eI (szP e l))) :=
 Pg.ind fun k n c nn ks ih l h1 h2 => by
  have b := szE_in c l h1 h2
  have h0 := F.afS c l h1 h2
  rw [hF] at h0
  rw [eP_mk, szP_mk]
  refine af_of_res rs hm rfl fun _ => ?_
  simp +contextual -implicitDefEqProofs only [k_szProg, go_sem, eI, ↓reduceIte, Nat.reduceEqDiff, Nat.reduceAdd, Nat.reduceLeDiff, Nat.reduceLT]
  refine callQ_self (ds := [eE c, eI l]) ?_ h0 ?_
  ·rw [eE_eta]; exact rfl
  simp +contextual -implicitDefEqProofs only [go_sem, eI, ↓reduceIte, Nat.reduceEqDiff, Nat.reduceAdd, Nat.reduceLeDiff, Nat.reduceLT]
  refine ⟨fun h => D.Le.sc_eq (by rw [nx_neg h]), fun h => ?_⟩
  have hs : AF P f2 [eS 6 eP (nn, ks), eI (szE c l)] (.own (eI (szS szP (nn, ks) (szE c l)))) := af_szC hm encP rss szP (nn, ks) (fun x hx l g1 g2 => ⟨ih x hx l g1 g2, (szP_in x l g1 g2).1, by have := (szP_in x l g1 g2).2; omega⟩) (szE c l) (by omega) (by omega)
  refine callQ_self ?_ hs ?_
  ·exact rfl
  simp +contextual -implicitDefEqProofs only [go_sem, eI, ↓reduceIte, Nat.reduceEqDiff]
  exact ⟨fun h' => D.Le.sc_eq (by rw [nx_pos h, nx_neg h']), fun h' => D.Le.sc_eq (by rw [nx_pos h, nx_pos h'])⟩
theorem af_toProg {g f1 f2 a b : Nat} (F : Fam P eE a f1 b) (rs : resF P g = some (19, k_toProg f1 f2, [.c 2 6 true])) (rss : resF P f2 = some (23, cToC g 6 80 true (.ag [(.sc (.int .i64 0)), (.sc (.int .i64 0)), (.sc (.int .i64 0)), (.sc (.int .i64 0)), (.ls (some true) 3 []), (.ls (some true) 6 [])]), [.t 2])) (hF : ∀ e, fitE e → F.fit e) (hT : ∀ e, F.t e = tE e) :
  ∀ e : Pg, fitP e → AF P g [eP e] (.own (eP (tP e))) :=
 Pg.ind fun k n c nn ks ih h => by
  rw [fitP_mk] at h
  have h0 := F.afT c (hF c h.1)
  rw [hT, eE_t] at h0
  have hs : AF P f2 [eS 6 eP (nn, ks)] (.own (eS 6 eP (some false, ks.map tP))) := af_toC hm encP encP ⟨rfl, rfl, rfl⟩ rss (nn, ks) (by have := h.2.1; simp only; omega) fun x hx => ih x hx (h.2.2 x hx)
  have e1 : eP (tP (.mk k n c nn ks)) = .ag [.sc (.int .i64 k), .sc (.int .i64 n), .sc (.int .i64 c.k), .sc (.int .i64 c.n), .ls (some false) 3 ((c.ks.map tE).map eE), .ls (some false) 6 ((ks.map tP).map eP)] := by
   rw [tP_mk, eP_mk]; cases c; rw [tE_mk]; rfl
  rw [e1, eP_mk]
  refine af_of_res rs hm rfl fun _ => ?_
  simp +contextual -implicitDefEqProofs only [k_toProg, go_sem, ↓reduceIte, Nat.reduceEqDiff, Nat.reduceAdd, Nat.reduceLeDiff, Nat.reduceBneDiff, Nat.reduceLT]
  refine callQ_self (ds := [eE c]) ?_ h0 ?_
  ·rw [eE_eta]; exact rfl
  simp +contextual -implicitDefEqProofs only [go_sem, ↓reduceIte, Nat.reduceEqDiff, Nat.reduceAdd, Nat.reduceLeDiff, Nat.reduceBEq, Nat.reduceBneDiff, Nat.reduceLT]
  refine callQ_self ?_ hs ?_
  ·exact rfl
  simp +contextual -implicitDefEqProofs only [eS, go_sem, ↓reduceIte, Nat.reduceEqDiff, Nat.reduceAdd, Nat.reduceLeDiff, Nat.reduceBEq, Nat.reduceBneDiff, Nat.reduceLT]

theorem af_eqProg {g f1 f2 a b : Nat} (F : Fam P eE a b f1) (rs : resF P g = some (27, k_eqProg f1 f2, [.t 4])) (rss : resF P f2 = some (27, cEqC g 6 true, [.t 4])) (hF : ∀ x y, F.q x y = qE x y) :
  ∀ a b : Pg, AF P g [eP a, eP b] (.own (eB (qP a b))) :=
 Pg.ind fun k n c nn ks ih b => by
  cases b with
  | mk k' n' c' nn' ks' =>
  have h0 := F.afQ c c'
  rw [hF] at h0
  have hs : AF P f2 [eS 6 eP (nn, ks), eS 6 eP (nn', ks')] (.own (eB (eqL qP ks ks'))) := af_eqC hm encP rss qP (nn, ks) (nn', ks') fun x hx y _ => ih x hx y
  rw [eP_mk, eP_mk, qP_mk]
  refine af_of_res rs hm rfl fun _ => ?_
  cases h1 : (k == k')
  ·simp +contextual -implicitDefEqProofs only [k_eqProg, h1, bne, bN, bG, bU, go_sem, eB, ↓reduceIte, Nat.reduceEqDiff, Nat.reduceAdd, Nat.reduceLeDiff, Nat.reduceBEq, Nat.reduceLT]
  cases h2 : (n == n')
  ·simp +contextual -implicitDefEqProofs only [k_eqProg, h1, h2, bne, bT, bN, bG, bU, bJ, go_sem, eB, ↓reduceIte, Nat.reduceEqDiff, Nat.reduceAdd, Nat.reduceLeDiff, Nat.reduceBEq, Nat.reduceLT]
  simp +contextual -implicitDefEqProofs only [k_eqProg, h1, h2, bne, bT, bN, bI, bU, go_sem, eB, ↓reduceIte, Nat.reduceEqDiff, Nat.reduceAdd, Nat.reduceLeDiff, Nat.reduceBEq, Nat.reduceLT]
  refine callQ_self (ds := [eE c, eE c']) ?_ h0 ?_
  ·rw [eE_eta, eE_eta]; exact rfl
  cases h4 : qE c c'
  ·simp +contextual -implicitDefEqProofs only [bN, bG, go_sem, eB, ↓reduceIte]
  simp +contextual -implicitDefEqProofs only [bT, bI, go_sem, eB, ↓reduceIte, Nat.reduceEqDiff, Nat.reduceAdd, Nat.reduceLeDiff, Nat.reduceLT]
  refine callQ_self ?_ hs ?_
  ·exact rfl
  cases h3 : eqL qP ks ks'
  ·simp +contextual -implicitDefEqProofs only [bN, go_sem, eB, ↓reduceIte]
  ·simp +contextual -implicitDefEqProofs only [bT, go_sem, eB, ↓reduceIte]

def famPg {sE tE' qE' sF tF qF sG tG qG : Nat} (F : Fam P eE sE tE' qE') (hF : F.s = szE ∧ F.t = tE ∧ F.q = qE ∧ F.fit = fitE)
  (r1 : resF P sF = some (18, k_szProg sE sG, [.t 4])) (r2 : resF P sG = some (27, cSzC sF 6 true, [.t 4]))
  (r3 : resF P tF = some (19, k_toProg tE' tG, [.c 2 6 true])) (r4 : resF P tG = some (23, cToC tF 6 80 true (.ag [(.sc (.int .i64 0)), (.sc (.int .i64 0)), (.sc (.int .i64 0)), (.sc (.int .i64 0)), (.ls (some true) 3 []), (.ls (some true) 6 [])]), [.t 2]))
  (r5 : resF P qF = some (27, k_eqProg qE' qG, [.t 4])) (r6 : resF P qG = some (27, cEqC qF 6 true, [.t 4])) : Fam P eP sF tF qF where
 s := szP
 t := tP
 q := qP
 fit := fitP
 s_in := szP_in
 s_fit := szP_fit
 q_refl := qP_refl
 afS := af_szProg hm F r1 r2 fun e l => by rw [hF.1]
 afT := af_toProg hm F r3 r4 (fun e h => by rw [hF.2.2.2]; exact h) fun e => by rw [hF.2.1]
 afQ := af_eqProg hm F r5 r6 fun x y => by rw [hF.2.2.1]
end

def k_sameExpr (g f1 : Nat) : RC := (.seq (.r [.b 2 3 0, .b 3 3 1, .v 4 .cf]) (.seq (.r [.f 5 0 2, .l 6 1 5, .f 7 0 3, .l 8 1 7, .o (.bin 9 .eql (.t 6) (.t 8)), .m 10 9, .w 10 (.fa 11 1 (.t 2)), .w 10 (.ld 12 false 1 (.t 11)), .w 10 (.fa 13 1 (.t 3)), .w 10 (.ld 14 false 1 (.t 13)), .w 10 (.bin 15 .eql (.t 12) (.t 14)), .k 16 10 15, .m 17 16, .w 17 (.fa 18 2 (.t 2)), .w 17 (.ld 19 false 1 (.t 18)), .w 17 (.fa 20 2 (.t 3)), .w 17 (.ld 21 false 1 (.t 20)), .w 17 (.call (some 22) f1 [.t 19, .t 21, (.c (.sc (.func (.func g) #[] #[])))]), .k 23 17 22, .m 4 23]) .ret))
def K_sameExpr (P : Program) (f : Nat) : Prop := ∀ (a b : Ex), AF P f [eE a, eE b] (.own (eB (qE a b)))
theorem a_sameExpr {P : Program} (hm : P.follows .mixedOrders = true) {g f1 : Nat} (hr : resF P g = some (24, k_sameExpr g f1, [.t 4])) (hc1 : resF P f1 = some (32, cEfA 3 (.ag [(.sc (.int .i64 0)), (.sc (.int .i64 0)), (.ls (some true) 3 [])]), [.t 6])) : K_sameExpr P g := by
 intro a b
 revert b
 refine Ex.ind (p := fun a => ∀ b : Ex, AF P g [eE a, eE b] (.own (eB (qE a b)))) (fun k n nn ks ih b => ?_) a
 cases b with
 | mk k' n' nn' ks' =>
 have hs : AF P f1 [eS 3 eE (nn, ks), eS 3 eE (nn', ks'), .sc (.func (.func g) #[] #[])] (.own (eB (eqL qE ks ks'))) := af_efA hm encE ⟨rfl, rfl⟩ rfl hc1 qE (nn, ks) (nn', ks') fun x hx y _ => ih x hx y
 rw [eE_mk, eE_mk, qE_mk]
 refine af_of_res hr hm rfl fun hb => ?_
 cases h1 : (k == k')
 ·simp +contextual -implicitDefEqProofs only [k_sameExpr, h1, bne, bN, bG, bU, go_sem, eB, ↓reduceIte, Nat.reduceEqDiff, Nat.reduceAdd, Nat.reduceLeDiff, Nat.reduceBEq, Nat.reduceLT]
 cases h2 : (n == n')
 ·simp +contextual -implicitDefEqProofs only [k_sameExpr, h1, h2, bne, bN, bG, bU, bJ, go_sem, eB, ↓reduceIte, Nat.reduceEqDiff, Nat.reduceAdd, Nat.reduceLeDiff, Nat.reduceBEq, Nat.reduceLT]
 simp +contextual -implicitDefEqProofs only [k_sameExpr, h1, h2, bne, bN, bI, bU, go_sem, eB, ↓reduceIte, Nat.reduceEqDiff, Nat.reduceAdd, Nat.reduceLeDiff, Nat.reduceBEq, Nat.reduceLT]
 refine callQ_self ?_ hs ?_
 ·exact rfl
 simp +contextual -implicitDefEqProofs only [go_sem, eB, ↓reduceIte, Nat.reduceEqDiff]

def k_sameProg (g f1 f2 : Nat) : RC := (.seq (.r [.b 2 6 0, .b 3 6 1, .v 4 .cf]) (.seq (.r [.f 5 0 2, .l 6 1 5, .f 7 0 3, .l 8 1 7, .o (.bin 9 .eql (.t 6) (.t 8)), .m 10 9, .w 10 (.fa 11 1 (.t 2)), .w 10 (.ld 12 false 1 (.t 11)), .w 10 (.fa 13 1 (.t 3)), .w 10 (.ld 14 false 1 (.t 13)), .w 10 (.bin 15 .eql (.t 12) (.t 14)), .k 16 10 15, .m 17 16, .w 17 (.fa 18 2 (.t 2)), .w 17 (.ld 19 true 3 (.t 18)), .w 17 (.fa 20 2 (.t 3)), .w 17 (.ld 21 true 3 (.t 20)), .w 17 (.call (some 22) f1 [.t 19, .t 21]), .k 23 17 22, .m 24 23, .w 24 (.fa 25 5 (.t 2)), .w 24 (.ld 26 false 1 (.t 25)), .w 24 (.fa 27 5 (.t 3)), .w 24 (.ld 28 false 1 (.t 27)), .w 24 (.call (some 29) f2 [.t 26, .t 28, (.c (.sc (.func (.func g) #[] #[])))]), .k 30 24 29, .m 4 30]) .ret))
def K_sameProg (P : Program) (f : Nat) : Prop := ∀ (a b : Pg), AF P f [eP a, eP b] (.own (eB (qP a b)))
theorem a_sameProg {P : Program} (hm : P.follows .mixedOrders = true) {g f1 f2 : Nat} (hr : resF P g = some (31, k_sameProg g f1 f2, [.t 4])) (hc1 : K_sameExpr P f1) (hc2 : resF P f2 = some (32, cEfA 6 (.ag [(.sc (.int .i64 0)), (.sc (.int .i64 0)), (.sc (.int .i64 0)), (.sc (.int .i64 0)), (.ls (some true) 3 []), (.ls (some true) 6 [])]), [.t 6])) : K_sameProg P g := by
 intro a b
 revert b
 refine Pg.ind (p := fun a => ∀ b : Pg, AF P g [eP a, eP b] (.own (eB (qP a b)))) (fun k n c nn ks ih b => ?_) a
 cases b with
 | mk k' n' c' nn' ks' =>
 have hs : AF P f2 [eS 6 eP (nn, ks), eS 6 eP (nn', ks'), .sc (.func (.func g) #[] #[])] (.own (eB (eqL qP ks ks'))) := af_efA hm encP ⟨rfl, rfl⟩ rfl hc2 qP (nn, ks) (nn', ks') fun x hx y _ => ih x hx y
 rw [eP_mk, eP_mk, qP_mk]
 refine af_of_res hr hm rfl fun hb => ?_
 cases h1 : (k == k')
 ·simp +contextual -implicitDefEqProofs only [k_sameProg, h1, bne, bN, bG, bU, go_sem, eB, ↓reduceIte, Nat.reduceEqDiff, Nat.reduceAdd, Nat.reduceLeDiff, Nat.reduceBEq, Nat.reduceLT]
 cases h2 : (n == n')
 ·simp +contextual -implicitDefEqProofs only [k_sameProg, h1, h2, bne, bN, bG, bU, bJ, go_sem, eB, ↓reduceIte, Nat.reduceEqDiff, Nat.reduceAdd, Nat.reduceLeDiff, Nat.reduceBEq, Nat.reduceLT]
 simp +contextual -implicitDefEqProofs only [k_sameProg, h1, h2, bne, bN, bI, bU, go_sem, eB, ↓reduceIte, Nat.reduceEqDiff, Nat.reduceAdd, Nat.reduceLeDiff, Nat.reduceBEq, Nat.reduceLT]
 refine callQ_self (ds := [eE c, eE c']) ?_ (hc1 c c') ?_
 ·rw [eE_eta, eE_eta]; exact rfl
 cases h3 : qE c c'
 ·simp +contextual -implicitDefEqProofs only [bG, go_sem, eB, ↓reduceIte, Nat.reduceEqDiff]
 simp +contextual -implicitDefEqProofs only [bI, go_sem, eB, ↓reduceIte, Nat.reduceEqDiff, Nat.reduceAdd, Nat.reduceLeDiff, Nat.reduceLT]
 refine callQ_self ?_ hs ?_
 ·exact rfl
 simp +contextual -implicitDefEqProofs only [go_sem, eB, ↓reduceIte, Nat.reduceEqDiff]

def k_l06Same (g f1 : Nat) : RC := (.seq (.r [.v 4 .cf]) (.seq (.seq (.reg true [.m 6 0, .n 7 6, .f 8 0 7, .l 9 1 8, .m 10 1, .n 11 10, .f 12 0 11, .l 13 1 12, .o (.bin 14 .neq (.t 9) (.t 13)), .m 15 14, .u 15 (.mv 16 (.t 0)), .u 15 (.nck 17 (.t 16)), .u 15 (.fa 18 1 (.t 17)), .u 15 (.ld 19 false 1 (.t 18)), .u 15 (.mv 20 (.t 1)), .u 15 (.nck 21 (.t 20)), .u 15 (.fa 22 1 (.t 21)), .u 15 (.ld 23 false 1 (.t 22)), .u 15 (.bin 24 .neq (.t 19) (.t 23)), .o (.pick 25 (.t 15) .ct (.t 24)), .m 26 25, .u 26 (.mv 27 (.t 0)), .u 26 (.nck 28 (.t 27)), .u 26 (.fa 29 5 (.t 28)), .u 26 (.ld 30 false 1 (.t 29)), .u 26 (.len 31 (.t 30)), .u 26 (.mv 32 (.t 1)), .u 26 (.nck 33 (.t 32)), .u 26 (.fa 34 5 (.t 33)), .u 26 (.ld 35 false 1 (.t 34)), .u 26 (.len 36 (.t 35)), .u 26 (.bin 37 .neq (.t 31) (.t 36)), .o (.pick 38 (.t 26) .ct (.t 37)), .m 39 38, .u 39 (.mv 40 (.t 0)), .u 39 (.nck 41 (.t 40)), .u 39 (.fa 42 2 (.t 41)), .u 39 (.mv 43 (.t 1)), .u 39 (.nck 44 (.t 43)), .u 39 (.fa 45 2 (.t 44)), .u 39 (.call (some 46) f1 [.t 42, .t 45]), .u 39 (.un 47 .not (.t 46)), .o (.pick 48 (.t 39) .ct (.t 47))]) (.cond (.t 48) (.seq (.r [.v 4 .cf]) .ret) .skip)) (.seq (.seq (.r [.v 5 (.ci 0)]) (.blk 0 (.loop (.seq (.seq (.r [.m 49 5, .m 50 0, .n 51 50, .f 52 5 51, .l 53 1 52, .o (.len 54 (.t 53)), .o (.bin 55 .lss (.t 49) (.t 54))]) (.cond (.t 55) .skip (.exit 0))) (.seq (.blk 1 (.seq (.reg true [.m 58 0, .n 59 58, .f 60 5 59, .l 61 1 60, .m 62 5, .o (.ia 63 6 (.t 61) (.t 62)), .m 64 1, .n 65 64, .f 66 5 65, .l 67 1 66, .m 68 5, .o (.ia 69 6 (.t 67) (.t 68)), .c 70 g [.t 63, .t 69], .o (.un 71 .not (.t 70))]) (.cond (.t 71) (.seq (.r [.v 4 .cf]) .ret) .skip))) (.r [.m 56 5, .o (.bin 57 .add (.t 56) (.ci 1)), .m 5 57])))))) (.seq (.r [.v 4 .ct]) .ret))))
def K_l06Same (P : Program) (f : Nat) : Prop := ∀ (a b : Pg), AF P f [.pt (eP a) 0, .pt (eP b) 0] (.own (eB (qP a b)))
theorem a_l06Same {P : Program} (hm : P.follows .mixedOrders = true) {g f1 : Nat} (hr : resF P g = some (72, k_l06Same g f1, [.t 4])) (hc1 : K_l01Same P f1) : K_l06Same P g := by
 intro a b
 revert b
 refine Pg.ind (p := fun a => ∀ b : Pg, AF P g [.pt (eP a) 0, .pt (eP b) 0] (.own (eB (qP a b)))) (fun k n c nn ks ih b => ?_) a
 cases b with
 | mk k' n' c' nn' ks' =>
 rw [eP_mk, eP_mk, qP_mk]
 refine af_of_res hr hm rfl fun hb => ?_
 have hl : ks.length ≤ 9223372036854775807 := by
  have := hb.1
  simp only [D.bd, D.bdL, lM, maxEl] at this
  exact this.2.2.2.2.2.1.1
 cases h1 : (k == k')
 ·simp +contextual -implicitDefEqProofs only [k_l06Same, h1, bne, bN, bG, go_sem, eB, ↓reduceIte, Nat.reduceEqDiff, Nat.reduceAdd, Nat.reduceLeDiff, Nat.reduceLT]
 cases h2 : (n == n')
 ·simp +contextual -implicitDefEqProofs only [k_l06Same, h1, h2, bne, bT, bN, bG, bJ, go_sem, eB, ↓reduceIte, Nat.reduceEqDiff, Nat.reduceAdd, Nat.reduceLeDiff, Nat.reduceLT]
 cases h0 : ((ks.length : Int) == ks'.length)
 ·simp +contextual -implicitDefEqProofs only [k_l06Same, h0, h1, h2, lM, eqL_len (show ks.length ≠ ks'.length by simp at h0; omega), bne, bT, bN, bJ, go_sem, eB, ↓reduceIte, Nat.reduceEqDiff, Nat.reduceAdd, Nat.reduceLeDiff, Nat.reduceLT]
 have hlen : ks.length = ks'.length := by simp at h0; omega
 simp +contextual -implicitDefEqProofs only [k_l06Same, h0, h1, h2, lM, bne, bT, bI, go_sem, eB, ↓reduceIte, Nat.reduceEqDiff, Nat.reduceAdd, Nat.reduceLeDiff, Nat.reduceLT]
 refine callQ_le (es := [.pt (eE c) 0, .pt (eE c') 0]) rfl ⟨D.LeA.sub (sz := 3) (by simp [D.size, D.sizeL]) rfl (by omega) (by rw [eE_eta]; rfl), D.LeA.sub (sz := 3) (by simp [D.size, D.sizeL]) rfl (by omega) (by rw [eE_eta]; rfl), trivial⟩ (hc1 c c') ?_
 cases h3 : qE c c'
 ·simp +contextual -implicitDefEqProofs only [bN, bG, go_sem, eB, ↓reduceIte, Nat.reduceEqDiff]
 simp +contextual -implicitDefEqProofs only [bT, bI, go_sem, eB, ↓reduceIte, Nat.reduceEqDiff]
 refine vc_on (α := Nat) [4, 5, 49, 50, 51, 52, 53, 54, 55, 56, 57, 58, 59, 60, 61, 62, 63, 64, 65, 66, 67, 68, 69, 70, 71] (fun i => [(5, .im none (.sc (.int .i64 i)))]) (fun i => i ≤ ks.length ∧ eqL qP (ks.drop i) (ks'.drop i) = eqL qP ks ks') (fun i => ks.length - i) 0
  (by simp only [subEnv, go_sem, ↓reduceIte]; simp) ⟨by simp, by simp⟩ ?_
 rintro i ⟨j1, j4⟩
 by_cases hi : i < ks.length
 ·have hi2 : i < ks'.length := by omega
  have e1 := at_map (f := eP) hi
  have e2 := at_map (f := eP) hi2
  rw [List.drop_eq_getElem_cons hi, List.drop_eq_getElem_cons hi2] at j4
  simp only [eqL] at j4
  simp +contextual -implicitDefEqProofs only [e1, e2, hi, hi2, iL, lM, iN, go_sem, ↓reduceIte, Nat.reduceEqDiff, Nat.reduceAdd, Nat.reduceLeDiff, Nat.reduceLT]
  refine callQ_self ?_ (ih ks[i] (List.getElem_mem _) ks'[i]) ?_
  ·exact rfl
  cases h : qP ks[i] ks'[i]
  ·simp +contextual -implicitDefEqProofs only [eB, bN, go_sem, ↓reduceIte]
   exact D.Le.sc_eq (by rw [← j4, h]; rfl)
  ·simp +contextual -implicitDefEqProofs only [eB, bT, go_sem, ↓reduceIte, Nat.reduceEqDiff]
   rw [wrap_i64 (by omega) (by omega)]
   exact ⟨i + 1, ⟨by omega, eqL_step j4 h⟩, by omega, Ent.env (by simp only [subEnv, go_sem, ↓reduceIte, Nat.reduceEqDiff]; simp)⟩
 ·simp +contextual -implicitDefEqProofs only [hi, iL, lM, go_sem, ↓reduceIte, Nat.reduceEqDiff, Nat.reduceAdd, Nat.reduceLeDiff, Nat.reduceLT]
  refine D.Le.sc_eq ?_
  rw [← j4, List.drop_eq_nil_of_le (by omega), List.drop_eq_nil_of_le (by omega)]
  rfl

end Go.Ax
namespace Go.Ax
set_option maxRecDepth 20000
set_option maxHeartbeats 4000000
theorem put_ag3 {usz j sz : Nat} {ds : List D} {v : D} : D.put usz (.ag ds) j sz v = if j = 0 ∧ sz = usz then v else .ag (ds.take j ++ v.cells ++ ds.drop (j + sz)) := rfl
mutual
def cpP : Pg → Pg
 | .mk k n c _ ks => .mk k n (cpE c) (nnL ks) (cpPs ks)
def cpPs : List Pg → List Pg
 | [] => []
 | e :: es => cpP e :: cpPs es
end
theorem cpPs_eq : ∀ ks : List Pg, cpPs ks = ks.map cpP
 | [] => rfl
 | e :: es => by simp only [cpPs, lC, cpPs_eq es]
theorem cpP_mk {k n : Int} {c : Ex} {nn : Option Bool} {ks : List Pg} : cpP (.mk k n c nn ks) = .mk k n (cpE c) (nnL ks) (ks.map cpP) := by rw [cpP]; simp only [cpPs_eq]
theorem Pg.ex5 (a : Pg) : ∃ k n c nn ks, a = .mk k n c nn ks := by cases a; exact ⟨_, _, _, _, _, rfl⟩
def skP : Pg := .mk 1 0 (.mk 0 0 (some true) []) (some true) []
def sqP (p q : Pg) : Pg := .mk 5 0 (.mk 0 0 (some true) []) (some false) [p, q]
def ifP (c : Ex) (p q : Pg) : Pg := .mk 6 0 c (some false) [p, q]
def whP (c : Ex) (p : Pg) : Pg := .mk 7 0 c (some false) [p]

def k_l06Own (g f1 : Nat) : RC := (.seq (.r [.o (.zer 2 6 .zp)]) (.seq (.reg true [.m 5 0, .n 6 5, .f 7 0 6, .l 8 1 7, .m 9 0, .n 10 9, .f 11 1 10, .l 12 1 11, .m 13 0, .n 14 13, .f 15 2 14, .c 16 f1 [.t 15], .o (.bld 17 .zp [(0, 1, (.t 8)), (1, 1, (.t 12)), (2, 3, (.t 16))]), .o (.zer 3 6 .zp), .s 6 3 17]) (.seq (.seq (.r [.v 4 (.ci 0)]) (.blk 0 (.loop (.seq (.seq (.r [.m 18 4, .m 19 0, .n 20 19, .f 21 5 20, .l 22 1 21, .o (.len 23 (.t 22)), .o (.bin 24 .lss (.t 18) (.t 23))]) (.cond (.t 24) .skip (.exit 0))) (.seq (.blk 1 (.reg true [.f 27 5 3, .l 28 1 27, .m 29 0, .n 30 29, .f 31 5 30, .l 32 1 31, .m 33 4, .o (.ia 34 6 (.t 32) (.t 33)), .c 35 g [.t 34], .o (.bs 36 6 .zp 1 [(0, (.t 35))]), .o (.app 37 6 80 (.t 28) (.t 36)), .f 38 5 3, .s 1 38 37])) (.r [.m 25 4, .o (.bin 26 .add (.t 25) (.ci 1)), .m 4 26])))))) (.seq (.r [.L 39 6 3, .s 6 2 39]) .ret))))
def K_l06Own (P : Program) (fno : Nat) : Prop := ∀ (p : Pg) (hf0 : fitP p), AF P fno [.pt (eP p) 0] (.own (eP (cpP p)))
theorem a_l06Own {P : Program} (hm : P.follows .mixedOrders = true) {g f1 : Nat} (hr : resF P g = some (40, k_l06Own g f1, [.c 2 6 true])) (hc1 : K_l01Own P f1) : K_l06Own P g := by
 intro p hf0
 refine Pg.ind (p := fun p => fitP p → AF P g [.pt (eP p) 0] (.own (eP (cpP p)))) (fun k n c nn ks ih hf => ?_) p hf0
 rw [fitP_mk] at hf
 have hO := hc1 c hf.1
 rw [eP_mk, cpP_mk, eP_mk]
 obtain ⟨ck, cn, cnn, cks, rfl⟩ := Ex.ex c
 generalize cpE (Ex.mk ck cn cnn cks) = d at hO
 obtain ⟨dk, dn, dnn, dks, rfl⟩ := Ex.ex d
 simp only [eE_mk, Ex.k, Ex.n, Ex.nn, Ex.ks] at hO ⊢
 refine af_of_res hr hm rfl fun hb => ?_
 have hl : ks.length ≤ 9223372036854775807 := by
  have := hb.1
  simp only [D.bd, D.bdL, lM, maxEl] at this
  exact by omega
 simp +contextual -implicitDefEqProofs only [k_l06Own, isAg_ag, lC, lN, D.size, D.sizeL, sub_ag, bE, bU, go_sem, ↓reduceIte, Nat.reduceEqDiff, Nat.reduceAdd, Nat.reduceLeDiff, Nat.reduceLT]
 refine callQ_le (es := [.pt (.ag [.sc (.int .i64 ck), .sc (.int .i64 cn), .ls cnn 3 (cks.map eE)]) 0]) rfl ⟨D.LeA.sub (sz := 3) (by simp [D.size, D.sizeL]) rfl (by omega) (by rfl), trivial⟩ hO ?_
 simp +contextual -implicitDefEqProofs only [isAg_ag, atA0, lC, lN, lK, lZ, D.cells, D.size, D.sizeL, modeOf, noPtrs, bE, bne, bN, bI, bU, bJ, Bool.true_or, Bool.or_true, Bool.or_false, go_sem, ↓reduceIte, Nat.reduceEqDiff, Nat.reduceAdd, Nat.reduceLeDiff, Nat.reduceBEq, Nat.reduceLT, Nat.reduceSub]
 refine vc_onU (α := Nat) [4, 18, 19, 20, 21, 22, 23, 24, 25, 26, 27, 28, 29, 30, 31, 32, 33, 34, 35, 36, 37, 38] (fun i => [(4, .im none (.sc (.int .i64 i)))]) (fun i => [(3, .ar true (some false) 6 [.ag [.sc (.int .i64 k), .sc (.int .i64 n), .sc (.int .i64 dk), .sc (.int .i64 dn), .ls dnn 3 (dks.map eE), .ls (nnL (ks.take i)) 6 (((ks.take i).map cpP).map eP)]]), (2, .ar true (some false) 6 [.ag [.sc (.int .i64 0), .sc (.int .i64 0), .sc (.int .i64 0), .sc (.int .i64 0), .ls (some true) 3 [], .ls (some true) 6 []]])]) (fun i => i ≤ ks.length) (fun i => ks.length - i) 0 (Ent.to [] (by simp only [go_sem]; rfl) rfl (by simp [nnL]) (by rfl) (by simp only [subEnv, go_sem, ↓reduceIte, Nat.reduceEqDiff, keep, memN] <;> simp)) (Nat.zero_le _) ?_
 intro i hi0
 by_cases hi : i < ks.length
 ·have e1 := at_map (f := eP) hi
  have hlen : ((ks.take i).map (fun x => eP (cpP x))).length = i := by simp; omega
  simp +contextual -implicitDefEqProofs only [hi, e1, isAg_ag, atA0, lC, lN, D.size, D.sizeL, lM, sub_ag, go_sem, ↓reduceIte, Nat.reduceEqDiff, Nat.reduceAdd, Nat.reduceLeDiff, Nat.reduceLT, iL, iN]
  refine callQ_self (by rfl) (ih ks[i] (List.getElem_mem hi) (hf.2.2 _ (List.getElem_mem hi))) ?_
  simp +contextual -implicitDefEqProofs only [isAg_ag, eP_size, atA0, lC, lN, lK, lZ, D.cells, D.size, modeOf, noPtrs, lM, sub_ag, bE, bne, bN, bI, bG, bU, Bool.true_or, Bool.or_true, go_sem, ↓reduceIte, Nat.reduceEqDiff, Nat.reduceAdd, Nat.reduceLeDiff, Nat.reduceMul, Nat.reduceBEq, Nat.reduceLT]
  have hl2 : (ks.take i).length = i := by simp; omega
  refine ⟨rfl, ⟨by omega, by unfold maxEl; omega, by simp [eP_size]⟩, i + 1, by omega, by omega, ?_⟩
  rw [wrap_i64 (by omega) (by omega)]
  exact Ent.to [] (by simp only [go_sem]; rfl) rfl (by simp [nnL_take hi, map_take hi, List.map_append]) (by rfl) (by simp only [subEnv, go_sem, ↓reduceIte, Nat.reduceEqDiff] <;> simp)
 ·simp +contextual -implicitDefEqProofs only [hi, go_sem, ↓reduceIte, Nat.reduceEqDiff, Nat.reduceAdd, Nat.reduceLeDiff, Nat.reduceLT, iL, lM]
  rw [List.take_of_length_le (by omega)]
  exact D.Le.refl _

def k_l06Is : RC := (.seq (.r [.v 4 .cf]) (.seq (.r [.m 5 0, .n 6 5, .f 7 0 6, .l 8 1 7, .m 9 1, .o (.bin 10 .eql (.t 8) (.t 9)), .m 4 10]) .ret))
def K_l06Is (P : Program) (fno : Nat) : Prop := ∀ (p : Pg) (kd : Int), AF P fno [.pt (eP p) 0, eI kd] (.own (eB (p.k == kd)))
theorem a_l06Is {P : Program} (hm : P.follows .mixedOrders = true) {g : Nat} (hr : resF P g = some (11, k_l06Is, [.t 4])) : K_l06Is P g := by
 intro p kd
 obtain ⟨k, n, c, nn, ks, rfl⟩ := Pg.ex5 p
 rw [eP_mk]
 refine af_of_res hr hm rfl fun hb => ?_
 simp +contextual -implicitDefEqProofs only [k_l06Is, Pg.k, isAg_ag, D.size, D.sizeL, eI, eB, sub_ag, go_sem, ↓reduceIte, Nat.reduceEqDiff, Nat.reduceAdd, Nat.reduceLeDiff, Nat.reduceLT]

def k_l06Skip : RC := (.seq (.r [.o (.zer 0 6 .zp)]) (.seq (.r [.o (.bld 1 .zp [(0, 1, (.ci 1))]), .s 6 0 1]) .ret))
def K_l06Skip (P : Program) (fno : Nat) : Prop := ∀ (_u : Unit), AF P fno [] (.own (eP skP))
theorem a_l06Skip {P : Program} (hm : P.follows .mixedOrders = true) {g : Nat} (hr : resF P g = some (2, k_l06Skip, [.c 0 6 true])) : K_l06Skip P g := by
 intro _u
 refine af_of_res hr hm rfl fun hb => ?_
 simp +contextual -implicitDefEqProofs only [k_l06Skip, skP, eP_mk, Ex.k, Ex.n, Ex.nn, Ex.ks, isAg_ag, atA0, lC, lN, lK, lZ, D.cells, D.size, D.sizeL, modeOf, noPtrs, sub_ag, bE, bne, bN, bU, bJ, Bool.or_true, Bool.or_false, go_sem, ↓reduceIte, Nat.reduceEqDiff, Nat.reduceAdd, Nat.reduceLeDiff, Nat.reduceBEq, Nat.reduceLT, Nat.reduceSub]
 try exact D.Le.refl _

def k_l06Seq (f1 : Nat) : RC := (.seq (.r [.b 2 6 0, .b 3 6 1, .o (.zer 4 6 .zp)]) (.seq (.r [.c 5 f1 [.t 2], .c 6 f1 [.t 3], .o (.bs 7 6 .zp 2 [(0, (.t 5)), (1, (.t 6))]), .o (.bld 8 .zp [(0, 1, (.ci 5)), (5, 1, (.t 7))]), .s 6 4 8]) .ret))
def K_l06Seq (P : Program) (fno : Nat) : Prop := ∀ (p : Pg) (hfp : fitP p) (q : Pg) (hfq : fitP q), AF P fno [eP p, eP q] (.own (eP (sqP (cpP p) (cpP q))))
theorem a_l06Seq {P : Program} (hm : P.follows .mixedOrders = true) {g f1 : Nat} (hr : resF P g = some (9, k_l06Seq f1, [.c 4 6 true])) (hc1 : K_l06Own P f1) : K_l06Seq P g := by
 intro p hfp q hfq
 have hp := hc1 p hfp
 obtain ⟨pk, pn, pc, pnn, pks, rfl⟩ := Pg.ex5 p
 generalize cpP (Pg.mk pk pn pc pnn pks) = dp at hp
 obtain ⟨dpk, dpn, dpc, dpnn, dpks, rfl⟩ := Pg.ex5 dp
 obtain ⟨pck, pcn, pcnn, pcks, rfl⟩ := Ex.ex pc
 obtain ⟨dpck, dpcn, dpcnn, dpcks, rfl⟩ := Ex.ex dpc
 have hq := hc1 q hfq
 obtain ⟨qk, qn, qc, qnn, qks, rfl⟩ := Pg.ex5 q
 generalize cpP (Pg.mk qk qn qc qnn qks) = dq at hq
 obtain ⟨dqk, dqn, dqc, dqnn, dqks, rfl⟩ := Pg.ex5 dq
 obtain ⟨qck, qcn, qcnn, qcks, rfl⟩ := Ex.ex qc
 obtain ⟨dqck, dqcn, dqcnn, dqcks, rfl⟩ := Ex.ex dqc
 simp only [eP_mk, Ex.k, Ex.n, Ex.nn, Ex.ks, sqP, lC, lN] at hp hq ⊢
 refine af_of_res hr hm rfl fun hb => ?_
 simp +contextual -implicitDefEqProofs only [k_l06Seq, lC, lN, D.size, D.sizeL, bE, bne, bN, bU, go_sem, ↓reduceIte, Nat.reduceEqDiff, Nat.reduceAdd, Nat.reduceBEq, Nat.reduceLT]
 refine callQ_self (by rfl) hp ?_
 simp +contextual (maxSteps := 1000000) -implicitDefEqProofs only [lC, lN, bne, bN, bU, bJ, go_sem, ↓reduceIte, Nat.reduceEqDiff, Nat.reduceBEq]
 refine callQ_self (by rfl) hq ?_
 simp +contextual (maxSteps := 1000000) -implicitDefEqProofs only [isAg_ag, atA0, lC, lN, lK, lZ, D.cells, D.size, D.sizeL, modeOf, noPtrs, sub_ag, bE, bne, bN, bI, bG, bU, bJ, Bool.true_or, Bool.or_true, Bool.or_false, go_sem, ↓reduceIte, Nat.reduceEqDiff, Nat.reduceAdd, Nat.reduceLeDiff, Nat.reduceMul, Nat.reduceBEq, Nat.reduceLT, Nat.reduceSub]
 exact ⟨by decide, by simp [D.size, D.sizeL]⟩

def k_l06If (f1 f2 : Nat) : RC := (.seq (.r [.b 3 3 0, .b 4 6 1, .b 5 6 2, .o (.zer 6 6 .zp)]) (.seq (.r [.c 7 f1 [.t 3], .c 8 f2 [.t 4], .c 9 f2 [.t 5], .o (.bs 10 6 .zp 2 [(0, (.t 8)), (1, (.t 9))]), .o (.bld 11 .zp [(0, 1, (.ci 6)), (2, 3, (.t 7)), (5, 1, (.t 10))]), .s 6 6 11]) .ret))
def K_l06If (P : Program) (fno : Nat) : Prop := ∀ (c : Ex) (hfc : fitE c) (p : Pg) (hfp : fitP p) (q : Pg) (hfq : fitP q), AF P fno [eE c, eP p, eP q] (.own (eP (ifP (cpE c) (cpP p) (cpP q))))
theorem a_l06If {P : Program} (hm : P.follows .mixedOrders = true) {g f1 f2 : Nat} (hr : resF P g = some (12, k_l06If f1 f2, [.c 6 6 true])) (hc1 : K_l01Own P f1) (hc2 : K_l06Own P f2) : K_l06If P g := by
 intro c hfc p hfp q hfq
 have hc := hc1 c hfc
 obtain ⟨ck, cn, cnn, cks, rfl⟩ := Ex.ex c
 generalize cpE (Ex.mk ck cn cnn cks) = dc at hc
 obtain ⟨dck, dcn, dcnn, dcks, rfl⟩ := Ex.ex dc
 have hp := hc2 p hfp
 obtain ⟨pk, pn, pc, pnn, pks, rfl⟩ := Pg.ex5 p
 generalize cpP (Pg.mk pk pn pc pnn pks) = dp at hp
 obtain ⟨dpk, dpn, dpc, dpnn, dpks, rfl⟩ := Pg.ex5 dp
 obtain ⟨pck, pcn, pcnn, pcks, rfl⟩ := Ex.ex pc
 obtain ⟨dpck, dpcn, dpcnn, dpcks, rfl⟩ := Ex.ex dpc
 have hq := hc2 q hfq
 obtain ⟨qk, qn, qc, qnn, qks, rfl⟩ := Pg.ex5 q
 generalize cpP (Pg.mk qk qn qc qnn qks) = dq at hq
 obtain ⟨dqk, dqn, dqc, dqnn, dqks, rfl⟩ := Pg.ex5 dq
 obtain ⟨qck, qcn, qcnn, qcks, rfl⟩ := Ex.ex qc
 obtain ⟨dqck, dqcn, dqcnn, dqcks, rfl⟩ := Ex.ex dqc
 simp only [eE_mk, eP_mk, Ex.k, Ex.n, Ex.nn, Ex.ks, ifP, lC, lN] at hc hp hq ⊢
 refine af_of_res hr hm rfl fun hb => ?_
 simp +contextual -implicitDefEqProofs only [k_l06If, lC, lN, D.size, D.sizeL, bE, bne, bN, bU, go_sem, ↓reduceIte, Nat.reduceEqDiff, Nat.reduceAdd, Nat.reduceBEq, Nat.reduceLT]
 refine callQ_self (by rfl) hc ?_
 simp +contextual (maxSteps := 1000000) -implicitDefEqProofs only [lC, lN, bne, bN, bU, bJ, go_sem, ↓reduceIte, Nat.reduceEqDiff, Nat.reduceBEq]
 refine callQ_self (by rfl) hp ?_
 simp +contextual (maxSteps := 1000000) -implicitDefEqProofs only [lC, lN, bne, bN, bU, bJ, go_sem, ↓reduceIte, Nat.reduceEqDiff, Nat.reduceBEq]
 refine callQ_self (by rfl) hq ?_
 simp +contextual (maxSteps := 1000000) -implicitDefEqProofs only [isAg_ag, atA0, lC, lN, lK, lZ, D.cells, D.size, D.sizeL, modeOf, noPtrs, sub_ag, bE, bne, bN, bI, bG, bU, bJ, Bool.true_or, Bool.or_true, Bool.or_false, go_sem, ↓reduceIte, Nat.reduceEqDiff, Nat.reduceAdd, Nat.reduceLeDiff, Nat.reduceMul, Nat.reduceBEq, Nat.reduceLT, Nat.reduceSub]
 exact ⟨by decide, by simp [D.size, D.sizeL]⟩

def k_l06While (f1 f2 : Nat) : RC := (.seq (.r [.b 2 3 0, .b 3 6 1, .o (.zer 4 6 .zp)]) (.seq (.r [.c 5 f1 [.t 2], .c 6 f2 [.t 3], .o (.bs 7 6 .zp 1 [(0, (.t 6))]), .o (.bld 8 .zp [(0, 1, (.ci 7)), (2, 3, (.t 5)), (5, 1, (.t 7))]), .s 6 4 8]) .ret))
def K_l06While (P : Program) (fno : Nat) : Prop := ∀ (c : Ex) (hfc : fitE c) (p : Pg) (hfp : fitP p), AF P fno [eE c, eP p] (.own (eP (whP (cpE c) (cpP p))))
theorem a_l06While {P : Program} (hm : P.follows .mixedOrders = true) {g f1 f2 : Nat} (hr : resF P g = some (9, k_l06While f1 f2, [.c 4 6 true])) (hc1 : K_l01Own P f1) (hc2 : K_l06Own P f2) : K_l06While P g := by
 intro c hfc p hfp
 have hc := hc1 c hfc
 obtain ⟨ck, cn, cnn, cks, rfl⟩ := Ex.ex c
 generalize cpE (Ex.mk ck cn cnn cks) = dc at hc
 obtain ⟨dck, dcn, dcnn, dcks, rfl⟩ := Ex.ex dc
 have hp := hc2 p hfp
 obtain ⟨pk, pn, pc, pnn, pks, rfl⟩ := Pg.ex5 p
 generalize cpP (Pg.mk pk pn pc pnn pks) = dp at hp
 obtain ⟨dpk, dpn, dpc, dpnn, dpks, rfl⟩ := Pg.ex5 dp
 obtain ⟨pck, pcn, pcnn, pcks, rfl⟩ := Ex.ex pc
 obtain ⟨dpck, dpcn, dpcnn, dpcks, rfl⟩ := Ex.ex dpc
 simp only [eE_mk, eP_mk, Ex.k, Ex.n, Ex.nn, Ex.ks, whP, lC, lN] at hc hp ⊢
 refine af_of_res hr hm rfl fun hb => ?_
 simp +contextual -implicitDefEqProofs only [k_l06While, lC, lN, D.size, D.sizeL, bE, bne, bN, bU, go_sem, ↓reduceIte, Nat.reduceEqDiff, Nat.reduceAdd, Nat.reduceBEq, Nat.reduceLT]
 refine callQ_self (by rfl) hc ?_
 simp +contextual (maxSteps := 1000000) -implicitDefEqProofs only [lC, lN, bne, bN, bU, bJ, go_sem, ↓reduceIte, Nat.reduceEqDiff, Nat.reduceBEq]
 refine callQ_self (by rfl) hp ?_
 simp +contextual (maxSteps := 1000000) -implicitDefEqProofs only [isAg_ag, atA0, lC, lN, lK, lZ, D.cells, D.size, D.sizeL, modeOf, noPtrs, sub_ag, bE, bne, bN, bI, bG, bU, bJ, Bool.true_or, Bool.or_true, Bool.or_false, go_sem, ↓reduceIte, Nat.reduceEqDiff, Nat.reduceAdd, Nat.reduceLeDiff, Nat.reduceMul, Nat.reduceBEq, Nat.reduceLT, Nat.reduceSub]
 exact ⟨by decide, by simp [D.size, D.sizeL]⟩

def kd (p : Pg) (i : Nat) : Pg := p.ks.getD i skP
def fitL (c : Ex) (x : Pg) (r : Int) : Bool :=
 (r == 1) || ((r == 10 && (x.k == 5 && (kd x 1).k == 7)) || ((r == 11 && (x.k == 7 && qE x.c c)) || (r == 14 && (x.k == 5 && ((kd x 0).k == 4 && qE (kd x 0).c c)))))
def fitI (c : Ex) (x y : Pg) (r : Int) : Bool :=
 (r == 2 && (x.k == 5 && (y.k == 1 && ((kd x 1).k == 7 && (qE (kd x 1).c c && qP (kd (kd x 1) 0) (kd x 0)))))) || ((r == 3 && qP x y) || ((r == 4) || (r == 9 && (x.k == 5 && (y.k == 5 && qP (kd x 1) (kd y 1))))))
def fitS (x y : Pg) (r : Int) : Bool :=
 (r == 5 && x.k == 5) || ((r == 6 && y.k == 5) || ((r == 7 && (x.k == 1 || y.k == 1)) || ((r == 8 && x.k == 6) || ((r == 12 && x.k == 4) || (r == 13 && (x.k == 7 && (y.k == 6 && qE x.c y.c)))))))
def fitsP (p : Pg) (r : Int) : Bool :=
 (p.k == 7 && fitL p.c (kd p 0) r) || ((p.k == 6 && fitI p.c (kd p 0) (kd p 1) r) || (p.k == 5 && fitS (kd p 0) (kd p 1) r))

mutual
theorem qE_symm : ∀ a b : Ex, qE a b = qE b a
 | .mk k n _ ks, .mk k' n' _ ks' => by simp only [qE, qEs_symm ks ks', Bool.beq_comm (a := k), Bool.beq_comm (a := n)]
theorem qEs_symm : ∀ a b : List Ex, qEs a b = qEs b a
 | [], [] => rfl
 | x :: a, y :: b => by simp only [qEs, qE_symm x y, qEs_symm a b]
 | [], _ :: _ => by simp only [qEs]
 | _ :: _, [] => by simp only [qEs]
end

def okT (g : Int × Int) (p : Pg) : Prop := treeP g p = true
theorem okT_form {g : Int × Int} {k n : Int} {c : Ex} {nn : Option Bool} {ks : List Pg} (h : okT g (.mk k n c nn ks)) :
  kidsP k = ks.length ∧ (k ≠ 3 → n = 0) ∧ (asksP k = false → noneE c = true) ∧ ∀ x ∈ ks, okT g x := by
 unfold okT at h
 rw [treeP_mk] at h
 unfold formP numP cP at h
 simp only [bA, beq_iff_eq, Bool.or_eq_true, Bool.not_eq_true', List.all_eq_true] at h
 obtain ⟨⟨h1, h2, h3⟩, h4⟩ := h
 refine ⟨h1, fun hk => ?_, fun hk => ?_, h4⟩
 ·rcases h2 with ⟨h2, _⟩ | ⟨_, h2⟩
  ·exact absurd h2 hk
  ·exact h2
 ·rcases h3 with ⟨h3, _⟩ | ⟨_, h3⟩
  ·rw [hk] at h3; cases h3
  ·exact h3
theorem kids_cases {k : Int} {m : Nat} (h : kidsP k = m) : ((k = 1 ∨ k = 2 ∨ k = 3 ∨ k = 4) ∧ m = 0) ∨ ((k = 5 ∨ k = 6) ∧ m = 2) ∨ (k = 7 ∧ m = 1) := by
 unfold kidsP at h
 repeat' split at h
 all_goals omega
theorem okT_two {g : Int × Int} {k n : Int} {c : Ex} {nn : Option Bool} {ks : List Pg} (h : okT g (.mk k n c nn ks)) (hk : k = 5 ∨ k = 6) : n = 0 ∧ ∃ x y, ks = [x, y] ∧ okT g x ∧ okT g y := by
 obtain ⟨h1, h2, _, h4⟩ := okT_form h
 refine ⟨h2 (by omega), ?_⟩
 have : ks.length = 2 := by have := kids_cases h1; omega
 match ks, this with
 | [x, y], _ => exact ⟨x, y, rfl, h4 x (by simp), h4 y (by simp)⟩
theorem okT_one {g : Int × Int} {k n : Int} {c : Ex} {nn : Option Bool} {ks : List Pg} (h : okT g (.mk k n c nn ks)) (hk : k = 7) : n = 0 ∧ ∃ x, ks = [x] ∧ okT g x := by
 obtain ⟨h1, h2, _, h4⟩ := okT_form h
 refine ⟨h2 (by omega), ?_⟩
 have : ks.length = 1 := by have := kids_cases h1; omega
 match ks, this with
 | [x], _ => exact ⟨x, rfl, h4 x (by simp)⟩
theorem okT_none {g : Int × Int} {k n : Int} {c : Ex} {nn : Option Bool} {ks : List Pg} (h : okT g (.mk k n c nn ks)) (hk : k ≠ 5 ∧ k ≠ 6 ∧ k ≠ 7) : ks = [] := by
 obtain ⟨h1, _, _, _⟩ := okT_form h
 have : ks.length = 0 := by have := kids_cases h1; omega
 exact List.eq_nil_of_length_eq_zero this
theorem okT_le {g : Int × Int} {k n : Int} {c : Ex} {nn : Option Bool} {ks : List Pg} (h : okT g (.mk k n c nn ks)) : ks.length ≤ 2 := by
 obtain ⟨h1, _, _, _⟩ := okT_form h
 have := kids_cases h1
 omega

theorem q_skip {g : Int × Int} {y : Pg} (h : okT g y) : qP y skP = (y.k == 1) := by
 obtain ⟨k, n, c, nn, ks, rfl⟩ := Pg.ex5 y
 simp only [skP, qP, Pg.k]
 by_cases hk : k = 1
 ·subst hk
  obtain ⟨_, h2, h3, _⟩ := okT_form h
  have hn := h2 (by omega)
  have hc := h3 (by decide)
  have hks := okT_none h (by omega)
  subst hn hks
  obtain ⟨ck, cn, cnn, cks, rfl⟩ := Ex.ex c
  simp only [noneE, Ex.k, Ex.n, Ex.ks, bA, beq_iff_eq] at hc
  obtain ⟨rfl, rfl, h5⟩ := hc
  have h6 : cks = [] := List.eq_nil_of_length_eq_zero (by omega)
  subst h6
  simp [qE, qEs, qPs]
 ·have : (k == 1) = false := by simpa using hk
  rw [this, bG]

theorem q_loop {g : Int × Int} {x c0 : Pg} {c : Ex} (h : okT g x) : qP x (whP c c0) = (x.k == 7 && (qE x.c c && qP (kd x 0) c0)) := by
 obtain ⟨k, n, xc, nn, ks, rfl⟩ := Pg.ex5 x
 simp only [whP, qP, Pg.k, Pg.c, kd, Pg.ks]
 by_cases hk : k = 7
 ·subst hk
  obtain ⟨hn, z, rfl, _⟩ := okT_one h rfl
  subst hn
  simp [qPs]
 ·have : (k == 7) = false := by simpa using hk
  rw [this, bG, bG]

mutual
def stP (r : Int) : Pg → List Int → List (List Int)
 | .mk k n c nn ks => fun path => (if fitsP (.mk k n c nn ks) r = true then [path] else []) ++ stPs r ks path 0
def stPs (r : Int) : List Pg → List Int → Nat → List (List Int)
 | [] => fun _ _ => []
 | e :: es => fun path i => stP r e (path ++ [(i : Int)]) ++ stPs r es path (i + 1)
end
theorem stP_mk {r k n : Int} {c : Ex} {nn : Option Bool} {ks : List Pg} {path : List Int} : stP r (.mk k n c nn ks) path = (if fitsP (.mk k n c nn ks) r = true then [path] else []) ++ stPs r ks path 0 := by rw [stP]
attribute [go_sem] List.length_cons List.length_nil List.map_cons List.map_nil Bool.or_false Bool.and_false Bool.or_true Bool.and_true Bool.true_and Bool.false_and Bool.not_false Bool.not_true beq_self_eq_true Int.cast_ofNat_Int Int.le_refl
attribute [go_sem_proc] Nat.reduceEqDiff Nat.reduceAdd Nat.reduceLeDiff Nat.reduceLT Nat.reduceBEq Nat.reduceMul Nat.reduceSub Nat.reduceBneDiff Int.reduceLT Int.reduceToNat Int.reduceLE Int.reduceBEq Int.reduceEq Int.reduceAdd Int.reduceNeg
attribute [go_sem_proc ↓] reduceIte
theorem Pk (k n : Int) (c nn ks) : Pg.k (.mk k n c nn ks) = k := rfl
theorem Pc (k n : Int) (c nn ks) : Pg.c (.mk k n c nn ks) = c := rfl
theorem Ps (k n : Int) (c nn ks) : Pg.ks (.mk k n c nn ks) = ks := rfl
theorem kd0 (k n : Int) (c nn a ks) : kd (.mk k n c nn (a :: ks)) 0 = a := rfl
theorem kd1 (k n : Int) (c nn a b ks) : kd (.mk k n c nn (a :: b :: ks)) 1 = b := rfl
theorem subP {e : Pg} : D.sub (eP e) 0 6 true = eP e := by first | exact encP.sub | exact encP.sub e | simp [encP.sub]
theorem subE {e : Ex} : D.sub (eE e) 0 3 true = eE e := by first | exact encE.sub | exact encE.sub e | simp [encE.sub]
attribute [go_sem] subP subE isAg_ag isAg_ls isAg_sc eE_size eE_isAg eP_size eP_isAg atA0 at1 List.map_cons List.map_nil List.length_cons List.length_nil Int.natCast_zero put_ag3 D.cells D.size D.sizeL modeOf noPtrs List.length_map List.any_cons List.any_nil eI eB eG sub_ag Int.cast_ofNat_Int Int.le_refl beq_self_eq_true bne Bool.not_true Bool.not_false Bool.true_and Bool.false_and Bool.and_true Bool.and_false Bool.true_or Bool.false_or Bool.or_true Bool.or_false decide_true decide_false and_self true_and and_true false_and and_false not_true_eq_false not_false_eq_true false_implies true_implies implies_true ge_iff_le Bool.false_eq_true List.cons_append List.nil_append Int.ofNat_lt Int.natCast_nonneg eE_mk eP_mk Ex.k Ex.n Ex.nn Ex.ks Pk Pc Ps fitsP kd0 kd1 sqP ifP whP skP List.getD_cons_zero List.getD_cons_succ
theorem leA3 {a b c d : Value} {nn n2 : Option Bool} {xs ys : List D} : D.LeA (.pt (.ag [.sc a, .sc b, .sc c, .sc d, .ls nn 3 xs, .ls n2 6 ys]) 2) (.pt (.ag [.sc c, .sc d, .ls nn 3 xs]) 0) := D.LeA.sub (sz := 3) (by simp [D.size, D.sizeL]) rfl (by omega) (by rfl)

def k_imSeq : RC := (.seq (.r [.b 2 6 0, .b 3 6 1, .o (.zer 4 6 .zp)]) (.seq (.r [.L 5 6 2, .L 6 6 3, .o (.bs 7 6 .zp 2 [(0, (.t 5)), (1, (.t 6))]), .o (.bld 8 .zp [(0, 1, (.ci 5)), (5, 1, (.t 7))]), .s 6 4 8]) .ret))
def K_imSeq (P : Program) (fno : Nat) : Prop := ∀ (p : Pg) (q : Pg), AF P fno [eP p, eP q] (.sh (eP (sqP p q)))
theorem a_imSeq {P : Program} (hm : P.follows .mixedOrders = true) {g : Nat} (hr : resF P g = some (9, k_imSeq, [.c 4 6 true])) : K_imSeq P g := by
 intro p q
 obtain ⟨pk, pn, pc, pnn, pks, rfl⟩ := Pg.ex5 p
 obtain ⟨pck, pcn, pcnn, pcks, rfl⟩ := Ex.ex pc
 obtain ⟨qk, qn, qc, qnn, qks, rfl⟩ := Pg.ex5 q
 obtain ⟨qck, qcn, qcnn, qcks, rfl⟩ := Ex.ex qc
 simp only [eP_mk, Ex.k, Ex.n, Ex.nn, Ex.ks, sqP, lC, lN]
 refine af_of_res hr hm rfl fun hb => ?_
 simp +contextual -implicitDefEqProofs only [k_imSeq, go_sem]
 decide

def k_imChoose : RC := (.seq (.r [.b 3 3 0, .b 4 6 1, .b 5 6 2, .o (.zer 6 6 .zp)]) (.seq (.r [.L 7 3 3, .L 8 6 4, .L 9 6 5, .o (.bs 10 6 .zp 2 [(0, (.t 8)), (1, (.t 9))]), .o (.bld 11 .zp [(0, 1, (.ci 6)), (2, 3, (.t 7)), (5, 1, (.t 10))]), .s 6 6 11]) .ret))
def K_imChoose (P : Program) (fno : Nat) : Prop := ∀ (c : Ex) (p : Pg) (q : Pg), AF P fno [eE c, eP p, eP q] (.sh (eP (ifP c p q)))
theorem a_imChoose {P : Program} (hm : P.follows .mixedOrders = true) {g : Nat} (hr : resF P g = some (12, k_imChoose, [.c 6 6 true])) : K_imChoose P g := by
 intro c p q
 obtain ⟨ck, cn, cnn, cks, rfl⟩ := Ex.ex c
 obtain ⟨pk, pn, pc, pnn, pks, rfl⟩ := Pg.ex5 p
 obtain ⟨pck, pcn, pcnn, pcks, rfl⟩ := Ex.ex pc
 obtain ⟨qk, qn, qc, qnn, qks, rfl⟩ := Pg.ex5 q
 obtain ⟨qck, qcn, qcnn, qcks, rfl⟩ := Ex.ex qc
 simp only [eE_mk, eP_mk, Ex.k, Ex.n, Ex.nn, Ex.ks, ifP, lC, lN]
 refine af_of_res hr hm rfl fun hb => ?_
 simp +contextual -implicitDefEqProofs only [k_imChoose, go_sem]
 decide

def k_imLoop : RC := (.seq (.r [.b 2 3 0, .b 3 6 1, .o (.zer 4 6 .zp)]) (.seq (.r [.L 5 3 2, .L 6 6 3, .o (.bs 7 6 .zp 1 [(0, (.t 6))]), .o (.bld 8 .zp [(0, 1, (.ci 7)), (2, 3, (.t 5)), (5, 1, (.t 7))]), .s 6 4 8]) .ret))
def K_imLoop (P : Program) (fno : Nat) : Prop := ∀ (c : Ex) (p : Pg), AF P fno [eE c, eP p] (.sh (eP (whP c p)))
theorem a_imLoop {P : Program} (hm : P.follows .mixedOrders = true) {g : Nat} (hr : resF P g = some (9, k_imLoop, [.c 4 6 true])) : K_imLoop P g := by
 intro c p
 obtain ⟨ck, cn, cnn, cks, rfl⟩ := Ex.ex c
 obtain ⟨pk, pn, pc, pnn, pks, rfl⟩ := Pg.ex5 p
 obtain ⟨pck, pcn, pcnn, pcks, rfl⟩ := Ex.ex pc
 simp only [eE_mk, eP_mk, Ex.k, Ex.n, Ex.nn, Ex.ks, whP, lC, lN]
 refine af_of_res hr hm rfl fun hb => ?_
 simp +contextual -implicitDefEqProofs only [k_imLoop, go_sem]
 decide

def k_treeSh : RC := (.seq (.r [.o (.zer 4 3 .ze)]) (.seq (.r [.m 5 0, .m 6 1, .o (.bld 7 .ze [(0, 1, (.t 5)), (2, 1, (.t 6))]), .s 3 4 7]) .ret))
def K_treeSh (P : Program) (fno : Nat) : Prop := ∀ (k : Int) (ks : List Ex), AF P fno [eI k, .ls (some false) 3 (ks.map eE)] (.sh (eE (.mk k 0 (some false) ks)))
theorem a_treeSh {P : Program} (hm : P.follows .mixedOrders = true) {g : Nat} (hr : resF P g = some (8, k_treeSh, [.c 4 3 true])) : K_treeSh P g := by
 intro k ks
 simp only [eE_mk]
 refine af_of_res hr hm rfl fun hb => ?_
 simp +contextual -implicitDefEqProofs only [k_treeSh, go_sem]

def k_isRule (f1 : Nat) : RC := (.seq (.r [.v 2 .cf]) (.seq (.r [.m 3 0, .c 4 f1 [.t 3, .ci 1, .ci 14], .m 2 4]) .ret))
def K_isRule (P : Program) (fno : Nat) : Prop := ∀ (r : Int), AF P fno [eI r] (.own (eB (isIn r 1 14)))
theorem a_isRule {P : Program} (hm : P.follows .mixedOrders = true) {g f1 : Nat} (hr : resF P g = some (5, k_isRule f1, [.t 2])) (hc1 : K_within P f1) : K_isRule P g := by
 intro r
 refine af_of_res hr hm rfl fun hb => ?_
 simp +contextual -implicitDefEqProofs only [k_isRule, go_sem]
 refine callQ_self (by rfl) (hc1 r 1 14) ?_
 simp +contextual -implicitDefEqProofs only [go_sem]

def k_loopRule (f1 f2 f3 f4 f5 : Nat) : RC := (.seq (.r [.b 3 6 0, .b 4 6 1, .o (.zer 6 6 .zp), .v 7 .cf]) (.seq (.r [.o (.bld 12 .zp [(0, 1, (.ci 1))]), .o (.zer 8 6 .zp), .s 6 8 12]) (.seq (.blk 0 (.seq (.r [.m 14 2, .q 15 14 1, .m 13 15]) (.cond (.t 13) (.seq (.reg true [.f 16 2 3, .L 17 3 16, .L 18 6 4, .L 19 6 3, .c 20 f1 [.t 18, .t 19], .L 21 6 8, .c 22 f2 [.t 17, .t 20, .t 21], .s 6 6 22, .v 7 .ct]) .ret) (.seq (.r [.m 24 2, .q 25 24 10, .m 26 25, .w 26 (.fa 27 0 (.t 4)), .w 26 (.ld 28 false 1 (.t 27)), .w 26 (.bin 29 .eql (.t 28) (.ci 5)), .k 30 26 29, .m 31 30, .w 31 (.fa 32 5 (.t 4)), .w 31 (.ld 33 false 1 (.t 32)), .w 31 (.ia 34 6 (.t 33) (.ci 1)), .w 31 (.fa 35 0 (.t 34)), .w 31 (.ld 36 false 1 (.t 35)), .w 31 (.bin 37 .eql (.t 36) (.ci 7)), .k 38 31 37, .m 23 38]) (.cond (.t 23) (.seq (.regL [.f 39 5 4, .l 40 1 39, .i 41 6 40 0, .L 42 6 41, .f 43 5 4, .l 44 1 43, .i 45 6 44 1, .L 46 6 45, .o (.zer 9 6 .zp), .o (.zer 10 6 .zp)] [([(.ld 44 false 1 (.t 43)), (.ia 45 6 (.t 44) (.ci 1)), (.ld 46 true 6 (.t 45))], .s 6 9 42), ([(.ld 44 false 1 (.t 43)), (.ia 45 6 (.t 44) (.ci 1)), (.ld 46 true 6 (.t 45))], .s 6 10 46)]) (.seq (.reg true [.f 47 2 10, .L 48 3 47, .f 49 5 10, .l 50 1 49, .i 51 6 50 0, .L 52 6 51, .L 53 6 9, .c 54 f2 [.t 48, .t 52, .t 53], .o (.zer 11 6 .zp), .s 6 11 54]) (.seq (.reg true [.f 55 2 3, .L 56 3 55, .L 57 6 9, .f 58 2 3, .L 59 3 58, .f 60 2 10, .L 61 3 60, .o (.bs 62 3 .ze 2 [(0, (.t 59)), (1, (.t 61))]), .c 63 f3 [.ci 6, .t 62], .L 64 6 11, .c 65 f4 [.t 63, .t 64], .c 66 f1 [.t 57, .t 65], .L 67 6 8, .c 68 f2 [.t 56, .t 66, .t 67], .s 6 6 68, .v 7 .ct]) .ret))) (.seq (.r [.m 70 2, .q 71 70 11, .m 72 71, .w 72 (.fa 73 0 (.t 4)), .w 72 (.ld 74 false 1 (.t 73)), .w 72 (.bin 75 .eql (.t 74) (.ci 7)), .k 76 72 75, .m 77 76, .w 77 (.fa 78 2 (.t 4)), .w 77 (.ld 79 true 3 (.t 78)), .w 77 (.fa 80 2 (.t 3)), .w 77 (.ld 81 true 3 (.t 80)), .w 77 (.call (some 82) f5 [.t 79, .t 81]), .k 83 77 82, .m 69 83]) (.cond (.t 69) (.seq (.r [.L 84 6 4, .s 6 6 84, .v 7 .ct]) .ret) (.seq (.reg true [.m 86 2, .q 87 86 14, .m 88 87, .w 88 (.fa 89 0 (.t 4)), .w 88 (.ld 90 false 1 (.t 89)), .w 88 (.bin 91 .eql (.t 90) (.ci 5)), .k 92 88 91, .m 93 92, .w 93 (.fa 94 5 (.t 4)), .w 93 (.ld 95 false 1 (.t 94)), .w 93 (.ia 96 6 (.t 95) (.ci 0)), .w 93 (.fa 97 0 (.t 96)), .w 93 (.ld 98 false 1 (.t 97)), .w 93 (.bin 99 .eql (.t 98) (.ci 4)), .k 100 93 99, .m 101 100, .w 101 (.fa 102 5 (.t 4)), .w 101 (.ld 103 false 1 (.t 102)), .w 101 (.ia 104 6 (.t 103) (.ci 0)), .w 101 (.fa 105 2 (.t 104)), .w 101 (.ld 106 true 3 (.t 105)), .w 101 (.fa 107 2 (.t 3)), .w 101 (.ld 108 true 3 (.t 107)), .w 101 (.call (some 109) f5 [.t 106, .t 108]), .k 110 101 109, .m 85 110]) (.cond (.t 85) (.seq (.reg true [.f 111 2 3, .L 112 3 111, .f 113 5 4, .l 114 1 113, .i 115 6 114 1, .L 116 6 115, .c 117 f4 [.t 112, .t 116], .s 6 6 117, .v 7 .ct]) .ret) .skip))))))))) (.seq (.r [.o (.bld 118 .zp []), .s 6 6 118, .v 7 .cf]) .ret))))
def K_loopRule (P : Program) (fno : Nat) : Prop := ∀ (gs : Int × Int) (p x : Pg) (r : Int), okT gs x → ∃ q : Pg, AF P fno [eP p, eP x, eI r] (.tup [.sh (eP q), .own (eB (fitL p.c x r))])
theorem a_loopRule {P : Program} (hm : P.follows .mixedOrders = true) {g f1 f2 f3 f4 f5 : Nat} (hr : resF P g = some (119, k_loopRule f1 f2 f3 f4 f5, [.c 6 6 true, .t 7])) (hc1 : K_imSeq P f1) (hc2 : K_imChoose P f2) (hc3 : K_treeSh P f3) (hc4 : K_imLoop P f4) (hc5 : K_sameExpr P f5) : K_loopRule P g := by
 intro gs p x r hx
 obtain ⟨pk, pn, pc, pnn, pks, rfl⟩ := Pg.ex5 p
 obtain ⟨pck, pcn, pcnn, pcks, rfl⟩ := Ex.ex pc
 obtain ⟨xk, xn, xc, xnn, xks, rfl⟩ := Pg.ex5 x
 obtain ⟨xck, xcn, xcnn, xcks, rfl⟩ := Ex.ex xc
 by_cases r1 : r = 1
 ·subst r1
  refine ⟨(ifP (Ex.mk pck pcn pcnn pcks) (sqP (Pg.mk xk xn (Ex.mk xck xcn xcnn xcks) xnn xks) (Pg.mk pk pn (Ex.mk pck pcn pcnn pcks) pnn pks)) skP), ?_⟩
  have c0 := hc1 (Pg.mk xk xn (Ex.mk xck xcn xcnn xcks) xnn xks) (Pg.mk pk pn (Ex.mk pck pcn pcnn pcks) pnn pks)
  have c1 := hc2 (Ex.mk pck pcn pcnn pcks) (sqP (Pg.mk xk xn (Ex.mk xck xcn xcnn xcks) xnn xks) (Pg.mk pk pn (Ex.mk pck pcn pcnn pcks) pnn pks)) skP
  simp only [eE_mk, eP_mk, Ex.k, Ex.n, Ex.nn, Ex.ks, sqP, ifP, skP,  lC, lN] at c0 c1
  refine af_of_res hr hm rfl fun hb => ?_
  simp +contextual (maxSteps := 5000000) -implicitDefEqProofs only [k_loopRule, fitL, go_sem]
  refine callQ_self (by rfl) c0 ?_
  simp +contextual (maxSteps := 5000000) -implicitDefEqProofs only [go_sem]
  refine callQ_self (by rfl) c1 ?_
  simp +contextual (maxSteps := 5000000) -implicitDefEqProofs only [go_sem]
 ·have er1 : (r == 1) = false := beq_false_of_ne r1
  by_cases r10 : r = 10
  ·subst r10
   by_cases qx5 : xk = 5
   ·subst qx5
    obtain ⟨rfl, x0, x1, rfl, hx0, hx1⟩ := okT_two hx (by omega)
    obtain ⟨x1k, x1n, x1c, x1nn, x1ks, rfl⟩ := Pg.ex5 x1
    obtain ⟨x1ck, x1cn, x1cnn, x1cks, rfl⟩ := Ex.ex x1c
    by_cases qx17 : x1k = 7
    ·subst qx17
     obtain ⟨rfl, x10, rfl, hx10⟩ := okT_one hx1 (by omega)
     refine ⟨(ifP (Ex.mk pck pcn pcnn pcks) (sqP x0 (whP (Ex.mk 6 0 (some false) [(Ex.mk pck pcn pcnn pcks), (Ex.mk x1ck x1cn x1cnn x1cks)]) (ifP (Ex.mk x1ck x1cn x1cnn x1cks) x10 x0))) skP), ?_⟩
     have c0 := hc2 (Ex.mk x1ck x1cn x1cnn x1cks) x10 x0
     have c1 := hc3 6 [(Ex.mk pck pcn pcnn pcks), (Ex.mk x1ck x1cn x1cnn x1cks)]
     have c2 := hc4 (Ex.mk 6 0 (some false) [(Ex.mk pck pcn pcnn pcks), (Ex.mk x1ck x1cn x1cnn x1cks)]) (ifP (Ex.mk x1ck x1cn x1cnn x1cks) x10 x0)
     have c3 := hc1 x0 (whP (Ex.mk 6 0 (some false) [(Ex.mk pck pcn pcnn pcks), (Ex.mk x1ck x1cn x1cnn x1cks)]) (ifP (Ex.mk x1ck x1cn x1cnn x1cks) x10 x0))
     have c4 := hc2 (Ex.mk pck pcn pcnn pcks) (sqP x0 (whP (Ex.mk 6 0 (some false) [(Ex.mk pck pcn pcnn pcks), (Ex.mk x1ck x1cn x1cnn x1cks)]) (ifP (Ex.mk x1ck x1cn x1cnn x1cks) x10 x0))) skP
     simp only [eI, eE_mk, eP_mk, Ex.k, Ex.n, Ex.nn, Ex.ks, sqP, ifP, whP, skP,  lC, lN] at c0 c1 c2 c3 c4
     refine af_of_res hr hm rfl fun hb => ?_
     simp +contextual (maxSteps := 5000000) -implicitDefEqProofs only [k_loopRule, fitL, er1, go_sem]
     refine callQ_self (by rfl) c0 ?_
     simp +contextual (maxSteps := 5000000) -implicitDefEqProofs only [go_sem]
     refine ⟨by decide, ?_⟩
     refine callQ_self (by rfl) c1 ?_
     simp +contextual (maxSteps := 5000000) -implicitDefEqProofs only [go_sem]
     refine callQ_self (by rfl) c2 ?_
     simp +contextual (maxSteps := 5000000) -implicitDefEqProofs only [go_sem]
     refine callQ_self (by rfl) c3 ?_
     simp +contextual (maxSteps := 5000000) -implicitDefEqProofs only [go_sem]
     refine callQ_self (by rfl) c4 ?_
     simp +contextual (maxSteps := 5000000) -implicitDefEqProofs only [go_sem]
    ·have ex17 : (x1k == 7) = false := beq_false_of_ne qx17
     refine ⟨(.mk 0 0 (.mk 0 0 (some true) []) (some true) []), ?_⟩
     refine af_of_res hr hm rfl fun hb => ?_
     simp +contextual (maxSteps := 5000000) -implicitDefEqProofs only [k_loopRule, fitL, er1, ex17, go_sem]
   ·have ex5 : (xk == 5) = false := beq_false_of_ne qx5
    refine ⟨(.mk 0 0 (.mk 0 0 (some true) []) (some true) []), ?_⟩
    refine af_of_res hr hm rfl fun hb => ?_
    simp +contextual (maxSteps := 5000000) -implicitDefEqProofs only [k_loopRule, fitL, ex5, er1, go_sem]
  ·have er10 : (r == 10) = false := beq_false_of_ne r10
   by_cases r11 : r = 11
   ·subst r11
    by_cases qx7 : xk = 7
    ·subst qx7
     obtain ⟨rfl, x0, rfl, hx0⟩ := okT_one hx (by omega)
     have cE := hc5 (Ex.mk xck xcn xcnn xcks) (Ex.mk pck pcn pcnn pcks)
     cases qb : qE (Ex.mk xck xcn xcnn xcks) (Ex.mk pck pcn pcnn pcks)
     ·refine ⟨(.mk 0 0 (.mk 0 0 (some true) []) (some true) []), ?_⟩
      simp only [qb, eB, eE_mk,  ] at cE
      refine af_of_res hr hm rfl fun hb => ?_
      simp +contextual (maxSteps := 5000000) -implicitDefEqProofs only [k_loopRule, fitL, er1, er10, qb, go_sem]
      refine callQ_self (by rfl) cE ?_
      simp +contextual (maxSteps := 5000000) -implicitDefEqProofs only [go_sem]
     ·refine ⟨(Pg.mk 7 0 (Ex.mk xck xcn xcnn xcks) xnn [x0]), ?_⟩
      simp only [qb, eB, eE_mk,  ] at cE
      refine af_of_res hr hm rfl fun hb => ?_
      simp +contextual (maxSteps := 5000000) -implicitDefEqProofs only [k_loopRule, fitL, er1, er10, qb, go_sem]
      refine callQ_self (by rfl) cE ?_
      simp +contextual (maxSteps := 5000000) -implicitDefEqProofs only [go_sem]
    ·have ex7 : (xk == 7) = false := beq_false_of_ne qx7
     refine ⟨(.mk 0 0 (.mk 0 0 (some true) []) (some true) []), ?_⟩
     refine af_of_res hr hm rfl fun hb => ?_
     simp +contextual (maxSteps := 5000000) -implicitDefEqProofs only [k_loopRule, fitL, ex7, er1, er10, go_sem]
   ·have er11 : (r == 11) = false := beq_false_of_ne r11
    by_cases r14 : r = 14
    ·subst r14
     by_cases qx5 : xk = 5
     ·subst qx5
      obtain ⟨rfl, x0, x1, rfl, hx0, hx1⟩ := okT_two hx (by omega)
      obtain ⟨x0k, x0n, x0c, x0nn, x0ks, rfl⟩ := Pg.ex5 x0
      obtain ⟨x0ck, x0cn, x0cnn, x0cks, rfl⟩ := Ex.ex x0c
      by_cases qx04 : x0k = 4
      ·subst qx04
       have cE := hc5 (Ex.mk x0ck x0cn x0cnn x0cks) (Ex.mk pck pcn pcnn pcks)
       cases qb : qE (Ex.mk x0ck x0cn x0cnn x0cks) (Ex.mk pck pcn pcnn pcks)
       ·refine ⟨(.mk 0 0 (.mk 0 0 (some true) []) (some true) []), ?_⟩
        simp only [qb, eB, eE_mk,  ] at cE
        refine af_of_res hr hm rfl fun hb => ?_
        simp +contextual (maxSteps := 5000000) -implicitDefEqProofs only [k_loopRule, fitL, er1, er10, er11, qb, go_sem]
        refine callQ_self (by rfl) cE ?_
        simp +contextual (maxSteps := 5000000) -implicitDefEqProofs only [go_sem]
       ·refine ⟨(whP (Ex.mk pck pcn pcnn pcks) x1), ?_⟩
        have c1 := hc4 (Ex.mk pck pcn pcnn pcks) x1
        simp only [qb, eB, eE_mk, eP_mk, Ex.k, Ex.n, Ex.nn, Ex.ks, whP,  lC, lN] at cE c1
        refine af_of_res hr hm rfl fun hb => ?_
        simp +contextual (maxSteps := 5000000) -implicitDefEqProofs only [k_loopRule, fitL, er1, er10, er11, qb, go_sem]
        refine callQ_self (by rfl) cE ?_
        simp +contextual (maxSteps := 5000000) -implicitDefEqProofs only [go_sem]
        refine callQ_self (by rfl) c1 ?_
        simp +contextual (maxSteps := 5000000) -implicitDefEqProofs only [go_sem]
      ·have ex04 : (x0k == 4) = false := beq_false_of_ne qx04
       refine ⟨(.mk 0 0 (.mk 0 0 (some true) []) (some true) []), ?_⟩
       refine af_of_res hr hm rfl fun hb => ?_
       simp +contextual (maxSteps := 5000000) -implicitDefEqProofs only [k_loopRule, fitL, er1, er10, er11, ex04, go_sem]
     ·have ex5 : (xk == 5) = false := beq_false_of_ne qx5
      refine ⟨(.mk 0 0 (.mk 0 0 (some true) []) (some true) []), ?_⟩
      refine af_of_res hr hm rfl fun hb => ?_
      simp +contextual (maxSteps := 5000000) -implicitDefEqProofs only [k_loopRule, fitL, ex5, er1, er10, er11, go_sem]
    ·have er14 : (r == 14) = false := beq_false_of_ne r14
     refine ⟨(.mk 0 0 (.mk 0 0 (some true) []) (some true) []), ?_⟩
     refine af_of_res hr hm rfl fun hb => ?_
     simp +contextual (maxSteps := 5000000) -implicitDefEqProofs only [k_loopRule, fitL, er1, er10, er11, er14, go_sem]

def k_rewritten (f1 f2 f3 f4 f5 f6 f7 : Nat) : RC := (.seq (.r [.b 2 6 0, .o (.zer 4 6 .zp), .v 5 .cf]) (.seq (.r [.o (.bld 11 .zp [(0, 1, (.ci 1))]), .o (.zer 6 6 .zp), .s 6 6 11]) (.seq (.seq (.r [.f 12 0 2, .l 13 1 12]) (.blk 0 (.seq (.r [.q 15 13 7, .m 14 15]) (.cond (.t 14) (.seq (.reg true [.L 16 6 2, .f 17 5 2, .l 18 1 17, .i 19 6 18 0, .L 20 6 19, .m 21 1, .c 22 f1 [.t 16, .t 20, .t 21], .o (.ext 23 (.t 22) 0), .o (.ext 24 (.t 22) 1), .s 6 4 23, .m 5 24]) .ret) (.seq (.r [.q 26 13 6, .m 25 26]) (.cond (.t 25) (.seq (.regL [.f 27 5 2, .l 28 1 27, .i 29 6 28 0, .L 30 6 29, .f 31 5 2, .l 32 1 31, .i 33 6 32 1, .L 34 6 33, .o (.zer 7 6 .zp), .o (.zer 8 6 .zp)] [([(.ld 32 false 1 (.t 31)), (.ia 33 6 (.t 32) (.ci 1)), (.ld 34 true 6 (.t 33))], .s 6 7 30), ([(.ld 32 false 1 (.t 31)), (.ia 33 6 (.t 32) (.ci 1)), (.ld 34 true 6 (.t 33))], .s 6 8 34)]) (.blk 1 (.seq (.reg true [.m 36 1, .q 37 36 2, .m 38 37, .w 38 (.fa 39 0 (.t 7)), .w 38 (.ld 40 false 1 (.t 39)), .w 38 (.bin 41 .eql (.t 40) (.ci 5)), .k 42 38 41, .m 43 42, .w 43 (.ld 44 true 6 (.t 8)), .w 43 (.ld 45 true 6 (.t 6)), .w 43 (.call (some 46) f2 [.t 44, .t 45]), .k 47 43 46, .m 48 47, .w 48 (.fa 49 5 (.t 7)), .w 48 (.ld 50 false 1 (.t 49)), .w 48 (.ia 51 6 (.t 50) (.ci 1)), .w 48 (.ld 52 true 6 (.t 51)), .w 48 (.fa 53 2 (.t 2)), .w 48 (.ld 54 true 3 (.t 53)), .w 48 (.fa 55 5 (.t 7)), .w 48 (.ld 56 false 1 (.t 55)), .w 48 (.ia 57 6 (.t 56) (.ci 0)), .w 48 (.ld 58 true 6 (.t 57)), .w 48 (.call (some 59) f3 [.t 54, .t 58]), .w 48 (.call (some 60) f2 [.t 52, .t 59]), .k 61 48 60, .m 35 61]) (.cond (.t 35) (.seq (.r [.f 62 5 7, .l 63 1 62, .i 64 6 63 1, .L 65 6 64, .s 6 4 65, .v 5 .ct]) .ret) (.seq (.r [.m 67 1, .q 68 67 3, .m 69 68, .w 69 (.ld 70 true 6 (.t 7)), .w 69 (.ld 71 true 6 (.t 8)), .w 69 (.call (some 72) f2 [.t 70, .t 71]), .k 73 69 72, .m 66 73]) (.cond (.t 66) (.seq (.r [.L 74 6 7, .s 6 4 74, .v 5 .ct]) .ret) (.seq (.r [.m 76 1, .q 77 76 4, .m 75 77]) (.cond (.t 75) (.seq (.reg true [.f 78 2 2, .L 79 3 78, .o (.bs 80 3 .ze 1 [(0, (.t 79))]), .c 81 f4 [.ci 5, .t 80], .L 82 6 8, .L 83 6 7, .c 84 f5 [.t 81, .t 82, .t 83], .s 6 4 84, .v 5 .ct]) .ret) (.seq (.reg true [.m 86 1, .q 87 86 9, .m 88 87, .w 88 (.fa 89 0 (.t 7)), .w 88 (.ld 90 false 1 (.t 89)), .w 88 (.bin 91 .eql (.t 90) (.ci 5)), .k 92 88 91, .m 93 92, .w 93 (.fa 94 0 (.t 8)), .w 93 (.ld 95 false 1 (.t 94)), .w 93 (.bin 96 .eql (.t 95) (.ci 5)), .k 97 93 96, .m 98 97, .w 98 (.fa 99 5 (.t 7)), .w 98 (.ld 100 false 1 (.t 99)), .w 98 (.ia 101 6 (.t 100) (.ci 1)), .w 98 (.ld 102 true 6 (.t 101)), .w 98 (.fa 103 5 (.t 8)), .w 98 (.ld 104 false 1 (.t 103)), .w 98 (.ia 105 6 (.t 104) (.ci 1)), .w 98 (.ld 106 true 6 (.t 105)), .w 98 (.call (some 107) f2 [.t 102, .t 106]), .k 108 98 107, .m 85 108]) (.cond (.t 85) (.seq (.reg true [.f 109 2 2, .L 110 3 109, .f 111 5 7, .l 112 1 111, .i 113 6 112 0, .L 114 6 113, .f 115 5 8, .l 116 1 115, .i 117 6 116 0, .L 118 6 117, .c 119 f5 [.t 110, .t 114, .t 118], .f 120 5 7, .l 121 1 120, .i 122 6 121 1, .L 123 6 122, .c 124 f6 [.t 119, .t 123], .s 6 4 124, .v 5 .ct]) .ret) .skip)))))))))) (.seq (.r [.q 126 13 5, .m 125 126]) (.cond (.t 125) (.seq (.regL [.f 127 5 2, .l 128 1 127, .i 129 6 128 0, .L 130 6 129, .f 131 5 2, .l 132 1 131, .i 133 6 132 1, .L 134 6 133, .o (.zer 9 6 .zp), .o (.zer 10 6 .zp)] [([(.ld 132 false 1 (.t 131)), (.ia 133 6 (.t 132) (.ci 1)), (.ld 134 true 6 (.t 133))], .s 6 9 130), ([(.ld 132 false 1 (.t 131)), (.ia 133 6 (.t 132) (.ci 1)), (.ld 134 true 6 (.t 133))], .s 6 10 134)]) (.blk 2 (.seq (.r [.m 136 1, .q 137 136 5, .m 138 137, .w 138 (.fa 139 0 (.t 9)), .w 138 (.ld 140 false 1 (.t 139)), .w 138 (.bin 141 .eql (.t 140) (.ci 5)), .k 142 138 141, .m 135 142]) (.cond (.t 135) (.seq (.reg true [.f 143 5 9, .l 144 1 143, .i 145 6 144 0, .L 146 6 145, .f 147 5 9, .l 148 1 147, .i 149 6 148 1, .L 150 6 149, .L 151 6 10, .c 152 f6 [.t 150, .t 151], .c 153 f6 [.t 146, .t 152], .s 6 4 153, .v 5 .ct]) .ret) (.seq (.r [.m 155 1, .q 156 155 6, .m 157 156, .w 157 (.fa 158 0 (.t 10)), .w 157 (.ld 159 false 1 (.t 158)), .w 157 (.bin 160 .eql (.t 159) (.ci 5)), .k 161 157 160, .m 154 161]) (.cond (.t 154) (.seq (.reg true [.L 162 6 9, .f 163 5 10, .l 164 1 163, .i 165 6 164 0, .L 166 6 165, .c 167 f6 [.t 162, .t 166], .f 168 5 10, .l 169 1 168, .i 170 6 169 1, .L 171 6 170, .c 172 f6 [.t 167, .t 171], .s 6 4 172, .v 5 .ct]) .ret) (.seq (.r [.m 174 1, .q 175 174 7, .m 176 175, .w 176 (.fa 177 0 (.t 9)), .w 176 (.ld 178 false 1 (.t 177)), .w 176 (.bin 179 .eql (.t 178) (.ci 1)), .k 180 176 179, .m 173 180]) (.cond (.t 173) (.seq (.r [.L 181 6 10, .s 6 4 181, .v 5 .ct]) .ret) (.seq (.r [.m 183 1, .q 184 183 7, .m 185 184, .w 185 (.fa 186 0 (.t 10)), .w 185 (.ld 187 false 1 (.t 186)), .w 185 (.bin 188 .eql (.t 187) (.ci 1)), .k 189 185 188, .m 182 189]) (.cond (.t 182) (.seq (.r [.L 190 6 9, .s 6 4 190, .v 5 .ct]) .ret) (.seq (.r [.m 192 1, .q 193 192 8, .m 194 193, .w 194 (.fa 195 0 (.t 9)), .w 194 (.ld 196 false 1 (.t 195)), .w 194 (.bin 197 .eql (.t 196) (.ci 6)), .k 198 194 197, .m 191 198]) (.cond (.t 191) (.seq (.reg true [.f 199 2 9, .L 200 3 199, .f 201 5 9, .l 202 1 201, .i 203 6 202 0, .L 204 6 203, .L 205 6 10, .c 206 f6 [.t 204, .t 205], .f 207 5 9, .l 208 1 207, .i 209 6 208 1, .L 210 6 209, .L 211 6 10, .c 212 f6 [.t 210, .t 211], .c 213 f5 [.t 200, .t 206, .t 212], .s 6 4 213, .v 5 .ct]) .ret) (.seq (.r [.m 215 1, .q 216 215 12, .m 217 216, .w 217 (.fa 218 0 (.t 9)), .w 217 (.ld 219 false 1 (.t 218)), .w 217 (.bin 220 .eql (.t 219) (.ci 4)), .k 221 217 220, .m 214 221]) (.cond (.t 214) (.seq (.r [.f 222 2 9, .L 223 3 222, .L 224 6 10, .o (.bld 225 .zp [(0, 1, (.ci 2))]), .c 226 f5 [.t 223, .t 224, .t 225], .s 6 4 226, .v 5 .ct]) .ret) (.seq (.r [.m 228 1, .q 229 228 13, .m 230 229, .w 230 (.fa 231 0 (.t 9)), .w 230 (.ld 232 false 1 (.t 231)), .w 230 (.bin 233 .eql (.t 232) (.ci 7)), .k 234 230 233, .m 235 234, .w 235 (.fa 236 0 (.t 10)), .w 235 (.ld 237 false 1 (.t 236)), .w 235 (.bin 238 .eql (.t 237) (.ci 6)), .k 239 235 238, .m 240 239, .w 240 (.fa 241 2 (.t 9)), .w 240 (.ld 242 true 3 (.t 241)), .w 240 (.fa 243 2 (.t 10)), .w 240 (.ld 244 true 3 (.t 243)), .w 240 (.call (some 245) f7 [.t 242, .t 244]), .k 246 240 245, .m 227 246]) (.cond (.t 227) (.seq (.reg true [.L 247 6 9, .f 248 5 10, .l 249 1 248, .i 250 6 249 1, .L 251 6 250, .c 252 f6 [.t 247, .t 251], .s 6 4 252, .v 5 .ct]) .ret) .skip)))))))))))))))) .skip)))))))) (.seq (.r [.o (.bld 253 .zp []), .s 6 4 253, .v 5 .cf]) .ret))))
def K_rewritten (P : Program) (fno : Nat) : Prop := ∀ (gs : Int × Int) (p : Pg) (r : Int), okT gs p → ∃ q : Pg, AF P fno [eP p, eI r] (.tup [.sh (eP q), .own (eB (fitsP p r))])
theorem a_rewritten {P : Program} (hm : P.follows .mixedOrders = true) {g f1 f2 f3 f4 f5 f6 f7 : Nat} (hr : resF P g = some (254, k_rewritten f1 f2 f3 f4 f5 f6 f7, [.c 4 6 true, .t 5])) (hc1 : K_loopRule P f1) (hc2 : K_sameProg P f2) (hc3 : K_imLoop P f3) (hc4 : K_treeSh P f4) (hc5 : K_imChoose P f5) (hc6 : K_imSeq P f6) (hc7 : K_sameExpr P f7) : K_rewritten P g := by
 intro gs p r hp
 obtain ⟨pk, pn, pc, pnn, pks, rfl⟩ := Pg.ex5 p
 obtain ⟨pck, pcn, pcnn, pcks, rfl⟩ := Ex.ex pc
 by_cases qp7 : pk = 7
 ·subst qp7
  obtain ⟨rfl, p0, rfl, hp0⟩ := okT_one hp (by omega)
  obtain ⟨q, c0⟩ := hc1 gs (Pg.mk 7 0 (Ex.mk pck pcn pcnn pcks) pnn [p0]) p0 r hp0
  simp only [eI, eB, eP_mk, Ex.k, Ex.n, Ex.nn, Ex.ks, Pc,  lC, lN] at c0
  generalize hbb : fitL (Ex.mk pck pcn pcnn pcks) p0 r = bb at c0
  refine ⟨q, ?_⟩
  refine af_of_res hr hm rfl fun hb => ?_
  simp +contextual (maxSteps := 5000000) -implicitDefEqProofs only [k_rewritten, hbb, go_sem]
  refine callQ_self (by rfl) c0 ?_
  simp +contextual (maxSteps := 5000000) -implicitDefEqProofs only [go_sem]
 ·have ep7 : (pk == 7) = false := beq_false_of_ne qp7
  by_cases qp6 : pk = 6
  ·subst qp6
   obtain ⟨rfl, p0, p1, rfl, hp0, hp1⟩ := okT_two hp (by omega)
   obtain ⟨p0k, p0n, p0c, p0nn, p0ks, rfl⟩ := Pg.ex5 p0
   obtain ⟨p0ck, p0cn, p0cnn, p0cks, rfl⟩ := Ex.ex p0c
   obtain ⟨p1k, p1n, p1c, p1nn, p1ks, rfl⟩ := Pg.ex5 p1
   obtain ⟨p1ck, p1cn, p1cnn, p1cks, rfl⟩ := Ex.ex p1c
   by_cases r2 : r = 2
   ·subst r2
    by_cases qp05 : p0k = 5
    ·subst qp05
     obtain ⟨rfl, p00, p01, rfl, hp00, hp01⟩ := okT_two hp0 (by omega)
     by_cases qp11 : p1k = 1
     ·subst qp11
      have cE := hc2 p01 (whP (Ex.mk pck pcn pcnn pcks) p00)
      rw [q_loop hp01] at cE
      cases qb : p01.k == 7 && (qE p01.c (Ex.mk pck pcn pcnn pcks) && qP (kd p01 0) p00)
      ·refine ⟨(.mk 0 0 (.mk 0 0 (some true) []) (some true) []), ?_⟩
       have c0 := hc2 (Pg.mk 1 p1n (Ex.mk p1ck p1cn p1cnn p1cks) p1nn p1ks) skP
       rw [q_skip hp1] at c0
       have c1 := hc3 (Ex.mk pck pcn pcnn pcks) p00
       simp only [qb, eB, eE_mk, eP_mk, Ex.k, Ex.n, Ex.nn, Ex.ks, Pk, bE, whP, skP,  lC, lN] at c0 c1 cE
       refine af_of_res hr hm rfl fun hb => ?_
       simp +contextual (maxSteps := 5000000) -implicitDefEqProofs only [k_rewritten, fitL, fitI, fitS, ep7, qb, go_sem]
       refine callQ_self (by rfl) c0 ?_
       simp +contextual (maxSteps := 5000000) -implicitDefEqProofs only [go_sem]
       refine callQ_self (by rfl) c1 ?_
       simp +contextual (maxSteps := 5000000) -implicitDefEqProofs only [go_sem]
       refine callQ_self (by rfl) cE ?_
       simp +contextual (maxSteps := 5000000) -implicitDefEqProofs only [go_sem]
      ·refine ⟨p01, ?_⟩
       have c0 := hc2 (Pg.mk 1 p1n (Ex.mk p1ck p1cn p1cnn p1cks) p1nn p1ks) skP
       rw [q_skip hp1] at c0
       have c1 := hc3 (Ex.mk pck pcn pcnn pcks) p00
       simp only [qb, eB, eE_mk, eP_mk, Ex.k, Ex.n, Ex.nn, Ex.ks, Pk, bE, whP, skP,  lC, lN] at c0 c1 cE
       refine af_of_res hr hm rfl fun hb => ?_
       simp +contextual (maxSteps := 5000000) -implicitDefEqProofs only [k_rewritten, fitL, fitI, fitS, ep7, qb, go_sem]
       refine callQ_self (by rfl) c0 ?_
       simp +contextual (maxSteps := 5000000) -implicitDefEqProofs only [go_sem]
       refine callQ_self (by rfl) c1 ?_
       simp +contextual (maxSteps := 5000000) -implicitDefEqProofs only [go_sem]
       refine callQ_self (by rfl) cE ?_
       simp +contextual (maxSteps := 5000000) -implicitDefEqProofs only [go_sem]
     ·have ep11 : (p1k == 1) = false := beq_false_of_ne qp11
      refine ⟨(.mk 0 0 (.mk 0 0 (some true) []) (some true) []), ?_⟩
      have c0 := hc2 (Pg.mk p1k p1n (Ex.mk p1ck p1cn p1cnn p1cks) p1nn p1ks) skP
      rw [q_skip hp1] at c0
      rw [show (Pg.k (Pg.mk p1k p1n (Ex.mk p1ck p1cn p1cnn p1cks) p1nn p1ks) == 1) = false by simp [Pg.k, ep11]] at c0
      simp only [eB, eP_mk, Ex.k, Ex.n, Ex.nn, Ex.ks, skP,  lN] at c0
      refine af_of_res hr hm rfl fun hb => ?_
      simp +contextual (maxSteps := 5000000) -implicitDefEqProofs only [k_rewritten, fitL, fitI, fitS, ep7, ep11, go_sem]
      refine callQ_self (by rfl) c0 ?_
      simp +contextual (maxSteps := 5000000) -implicitDefEqProofs only [go_sem]
    ·have ep05 : (p0k == 5) = false := beq_false_of_ne qp05
     refine ⟨(.mk 0 0 (.mk 0 0 (some true) []) (some true) []), ?_⟩
     refine af_of_res hr hm rfl fun hb => ?_
     simp +contextual (maxSteps := 5000000) -implicitDefEqProofs only [k_rewritten, fitL, fitI, fitS, ep7, ep05, go_sem]
   ·have er2 : (r == 2) = false := beq_false_of_ne r2
    by_cases r3 : r = 3
    ·subst r3
     have cE := hc2 (Pg.mk p0k p0n (Ex.mk p0ck p0cn p0cnn p0cks) p0nn p0ks) (Pg.mk p1k p1n (Ex.mk p1ck p1cn p1cnn p1cks) p1nn p1ks)
     cases qb : qP (Pg.mk p0k p0n (Ex.mk p0ck p0cn p0cnn p0cks) p0nn p0ks) (Pg.mk p1k p1n (Ex.mk p1ck p1cn p1cnn p1cks) p1nn p1ks)
     ·refine ⟨(.mk 0 0 (.mk 0 0 (some true) []) (some true) []), ?_⟩
      simp only [qb, eB, eP_mk, Ex.k, Ex.n, Ex.nn, Ex.ks,  ] at cE
      refine af_of_res hr hm rfl fun hb => ?_
      simp +contextual (maxSteps := 5000000) -implicitDefEqProofs only [k_rewritten, fitL, fitI, fitS, ep7, er2, qb, go_sem]
      refine callQ_self (by rfl) cE ?_
      simp +contextual (maxSteps := 5000000) -implicitDefEqProofs only [go_sem]
     ·refine ⟨(Pg.mk p0k p0n (Ex.mk p0ck p0cn p0cnn p0cks) p0nn p0ks), ?_⟩
      simp only [qb, eB, eP_mk, Ex.k, Ex.n, Ex.nn, Ex.ks,  ] at cE
      refine af_of_res hr hm rfl fun hb => ?_
      simp +contextual (maxSteps := 5000000) -implicitDefEqProofs only [k_rewritten, fitL, fitI, fitS, ep7, er2, qb, go_sem]
      refine callQ_self (by rfl) cE ?_
      simp +contextual (maxSteps := 5000000) -implicitDefEqProofs only [go_sem]
    ·have er3 : (r == 3) = false := beq_false_of_ne r3
     by_cases r4 : r = 4
     ·subst r4
      refine ⟨(ifP (Ex.mk 5 0 (some false) [(Ex.mk pck pcn pcnn pcks)]) (Pg.mk p1k p1n (Ex.mk p1ck p1cn p1cnn p1cks) p1nn p1ks) (Pg.mk p0k p0n (Ex.mk p0ck p0cn p0cnn p0cks) p0nn p0ks)), ?_⟩
      have c0 := hc4 5 [(Ex.mk pck pcn pcnn pcks)]
      have c1 := hc5 (Ex.mk 5 0 (some false) [(Ex.mk pck pcn pcnn pcks)]) (Pg.mk p1k p1n (Ex.mk p1ck p1cn p1cnn p1cks) p1nn p1ks) (Pg.mk p0k p0n (Ex.mk p0ck p0cn p0cnn p0cks) p0nn p0ks)
      simp only [eI, eE_mk, eP_mk, Ex.k, Ex.n, Ex.nn, Ex.ks, ifP,  lC, lN] at c0 c1
      refine af_of_res hr hm rfl fun hb => ?_
      simp +contextual (maxSteps := 5000000) -implicitDefEqProofs only [k_rewritten, fitL, fitI, fitS, ep7, er2, er3, go_sem]
      refine ⟨by decide, ?_⟩
      refine callQ_self (by rfl) c0 ?_
      simp +contextual (maxSteps := 5000000) -implicitDefEqProofs only [go_sem]
      refine callQ_self (by rfl) c1 ?_
      simp +contextual (maxSteps := 5000000) -implicitDefEqProofs only [go_sem]
     ·have er4 : (r == 4) = false := beq_false_of_ne r4
      by_cases r9 : r = 9
      ·subst r9
       by_cases qp05 : p0k = 5
       ·subst qp05
        obtain ⟨rfl, p00, p01, rfl, hp00, hp01⟩ := okT_two hp0 (by omega)
        by_cases qp15 : p1k = 5
        ·subst qp15
         obtain ⟨rfl, p10, p11, rfl, hp10, hp11⟩ := okT_two hp1 (by omega)
         have cE := hc2 p01 p11
         cases qb : qP p01 p11
         ·refine ⟨(.mk 0 0 (.mk 0 0 (some true) []) (some true) []), ?_⟩
          simp only [qb, eB,  ] at cE
          refine af_of_res hr hm rfl fun hb => ?_
          simp +contextual (maxSteps := 5000000) -implicitDefEqProofs only [k_rewritten, fitL, fitI, fitS, ep7, er2, er3, er4, qb, go_sem]
          refine callQ_self (by rfl) cE ?_
          simp +contextual (maxSteps := 5000000) -implicitDefEqProofs only [go_sem]
         ·refine ⟨(sqP (ifP (Ex.mk pck pcn pcnn pcks) p00 p10) p01), ?_⟩
          have c1 := hc5 (Ex.mk pck pcn pcnn pcks) p00 p10
          have c2 := hc6 (ifP (Ex.mk pck pcn pcnn pcks) p00 p10) p01
          simp only [qb, eB, eE_mk, eP_mk, Ex.k, Ex.n, Ex.nn, Ex.ks, sqP, ifP,  lC, lN] at cE c1 c2
          refine af_of_res hr hm rfl fun hb => ?_
          simp +contextual (maxSteps := 5000000) -implicitDefEqProofs only [k_rewritten, fitL, fitI, fitS, ep7, er2, er3, er4, qb, go_sem]
          refine callQ_self (by rfl) cE ?_
          simp +contextual (maxSteps := 5000000) -implicitDefEqProofs only [go_sem]
          refine callQ_self (by rfl) c1 ?_
          simp +contextual (maxSteps := 5000000) -implicitDefEqProofs only [go_sem]
          refine callQ_self (by rfl) c2 ?_
          simp +contextual (maxSteps := 5000000) -implicitDefEqProofs only [go_sem]
        ·have ep15 : (p1k == 5) = false := beq_false_of_ne qp15
         refine ⟨(.mk 0 0 (.mk 0 0 (some true) []) (some true) []), ?_⟩
         refine af_of_res hr hm rfl fun hb => ?_
         simp +contextual (maxSteps := 5000000) -implicitDefEqProofs only [k_rewritten, fitL, fitI, fitS, ep7, ep15, er2, er3, er4, go_sem]
       ·have ep05 : (p0k == 5) = false := beq_false_of_ne qp05
        refine ⟨(.mk 0 0 (.mk 0 0 (some true) []) (some true) []), ?_⟩
        refine af_of_res hr hm rfl fun hb => ?_
        simp +contextual (maxSteps := 5000000) -implicitDefEqProofs only [k_rewritten, fitL, fitI, fitS, ep7, ep05, er2, er3, er4, go_sem]
      ·have er9 : (r == 9) = false := beq_false_of_ne r9
       refine ⟨(.mk 0 0 (.mk 0 0 (some true) []) (some true) []), ?_⟩
       refine af_of_res hr hm rfl fun hb => ?_
       simp +contextual (maxSteps := 5000000) -implicitDefEqProofs only [k_rewritten, fitL, fitI, fitS, ep7, er2, er3, er4, er9, go_sem]
  ·have ep6 : (pk == 6) = false := beq_false_of_ne qp6
   by_cases qp5 : pk = 5
   ·subst qp5
    obtain ⟨rfl, p0, p1, rfl, hp0, hp1⟩ := okT_two hp (by omega)
    obtain ⟨p0k, p0n, p0c, p0nn, p0ks, rfl⟩ := Pg.ex5 p0
    obtain ⟨p0ck, p0cn, p0cnn, p0cks, rfl⟩ := Ex.ex p0c
    obtain ⟨p1k, p1n, p1c, p1nn, p1ks, rfl⟩ := Pg.ex5 p1
    obtain ⟨p1ck, p1cn, p1cnn, p1cks, rfl⟩ := Ex.ex p1c
    by_cases r5 : r = 5
    ·subst r5
     by_cases qp05 : p0k = 5
     ·subst qp05
      obtain ⟨rfl, p00, p01, rfl, hp00, hp01⟩ := okT_two hp0 (by omega)
      refine ⟨(sqP p00 (sqP p01 (Pg.mk p1k p1n (Ex.mk p1ck p1cn p1cnn p1cks) p1nn p1ks))), ?_⟩
      have c0 := hc6 p01 (Pg.mk p1k p1n (Ex.mk p1ck p1cn p1cnn p1cks) p1nn p1ks)
      have c1 := hc6 p00 (sqP p01 (Pg.mk p1k p1n (Ex.mk p1ck p1cn p1cnn p1cks) p1nn p1ks))
      simp only [eP_mk, Ex.k, Ex.n, Ex.nn, Ex.ks, sqP,  lC, lN] at c0 c1
      refine af_of_res hr hm rfl fun hb => ?_
      simp +contextual (maxSteps := 5000000) -implicitDefEqProofs only [k_rewritten, fitL, fitI, fitS, ep7, ep6, go_sem]
      refine callQ_self (by rfl) c0 ?_
      simp +contextual (maxSteps := 5000000) -implicitDefEqProofs only [go_sem]
      refine callQ_self (by rfl) c1 ?_
      simp +contextual (maxSteps := 5000000) -implicitDefEqProofs only [go_sem]
     ·have ep05 : (p0k == 5) = false := beq_false_of_ne qp05
      refine ⟨(.mk 0 0 (.mk 0 0 (some true) []) (some true) []), ?_⟩
      refine af_of_res hr hm rfl fun hb => ?_
      simp +contextual (maxSteps := 5000000) -implicitDefEqProofs only [k_rewritten, fitL, fitI, fitS, ep7, ep6, ep05, go_sem]
    ·have er5 : (r == 5) = false := beq_false_of_ne r5
     by_cases r6 : r = 6
     ·subst r6
      by_cases qp15 : p1k = 5
      ·subst qp15
       obtain ⟨rfl, p10, p11, rfl, hp10, hp11⟩ := okT_two hp1 (by omega)
       refine ⟨(sqP (sqP (Pg.mk p0k p0n (Ex.mk p0ck p0cn p0cnn p0cks) p0nn p0ks) p10) p11), ?_⟩
       have c0 := hc6 (Pg.mk p0k p0n (Ex.mk p0ck p0cn p0cnn p0cks) p0nn p0ks) p10
       have c1 := hc6 (sqP (Pg.mk p0k p0n (Ex.mk p0ck p0cn p0cnn p0cks) p0nn p0ks) p10) p11
       simp only [eP_mk, Ex.k, Ex.n, Ex.nn, Ex.ks, sqP,  lC, lN] at c0 c1
       refine af_of_res hr hm rfl fun hb => ?_
       simp +contextual (maxSteps := 5000000) -implicitDefEqProofs only [k_rewritten, fitL, fitI, fitS, ep7, ep6, er5, go_sem]
       refine callQ_self (by rfl) c0 ?_
       simp +contextual (maxSteps := 5000000) -implicitDefEqProofs only [go_sem]
       refine callQ_self (by rfl) c1 ?_
       simp +contextual (maxSteps := 5000000) -implicitDefEqProofs only [go_sem]
      ·have ep15 : (p1k == 5) = false := beq_false_of_ne qp15
       refine ⟨(.mk 0 0 (.mk 0 0 (some true) []) (some true) []), ?_⟩
       refine af_of_res hr hm rfl fun hb => ?_
       simp +contextual (maxSteps := 5000000) -implicitDefEqProofs only [k_rewritten, fitL, fitI, fitS, ep7, ep6, ep15, er5, go_sem]
     ·have er6 : (r == 6) = false := beq_false_of_ne r6
      by_cases r7 : r = 7
      ·subst r7
       by_cases qp01 : p0k = 1
       ·subst qp01
        refine ⟨(Pg.mk p1k p1n (Ex.mk p1ck p1cn p1cnn p1cks) p1nn p1ks), ?_⟩
        refine af_of_res hr hm rfl fun hb => ?_
        simp +contextual (maxSteps := 5000000) -implicitDefEqProofs only [k_rewritten, fitL, fitI, fitS, ep7, ep6, er5, er6, go_sem]
       ·have ep01 : (p0k == 1) = false := beq_false_of_ne qp01
        by_cases qp11 : p1k = 1
        ·subst qp11
         refine ⟨(Pg.mk p0k p0n (Ex.mk p0ck p0cn p0cnn p0cks) p0nn p0ks), ?_⟩
         refine af_of_res hr hm rfl fun hb => ?_
         simp +contextual (maxSteps := 5000000) -implicitDefEqProofs only [k_rewritten, fitL, fitI, fitS, ep7, ep6, ep01, er5, er6, go_sem]
        ·have ep11 : (p1k == 1) = false := beq_false_of_ne qp11
         refine ⟨(.mk 0 0 (.mk 0 0 (some true) []) (some true) []), ?_⟩
         refine af_of_res hr hm rfl fun hb => ?_
         simp +contextual (maxSteps := 5000000) -implicitDefEqProofs only [k_rewritten, fitL, fitI, fitS, ep7, ep6, ep01, ep11, er5, er6, go_sem]
      ·have er7 : (r == 7) = false := beq_false_of_ne r7
       by_cases r8 : r = 8
       ·subst r8
        by_cases qp06 : p0k = 6
        ·subst qp06
         obtain ⟨rfl, p00, p01, rfl, hp00, hp01⟩ := okT_two hp0 (by omega)
         refine ⟨(ifP (Ex.mk p0ck p0cn p0cnn p0cks) (sqP p00 (Pg.mk p1k p1n (Ex.mk p1ck p1cn p1cnn p1cks) p1nn p1ks)) (sqP p01 (Pg.mk p1k p1n (Ex.mk p1ck p1cn p1cnn p1cks) p1nn p1ks))), ?_⟩
         have c0 := hc6 p00 (Pg.mk p1k p1n (Ex.mk p1ck p1cn p1cnn p1cks) p1nn p1ks)
         have c1 := hc6 p01 (Pg.mk p1k p1n (Ex.mk p1ck p1cn p1cnn p1cks) p1nn p1ks)
         have c2 := hc5 (Ex.mk p0ck p0cn p0cnn p0cks) (sqP p00 (Pg.mk p1k p1n (Ex.mk p1ck p1cn p1cnn p1cks) p1nn p1ks)) (sqP p01 (Pg.mk p1k p1n (Ex.mk p1ck p1cn p1cnn p1cks) p1nn p1ks))
         simp only [eE_mk, eP_mk, Ex.k, Ex.n, Ex.nn, Ex.ks, sqP, ifP,  lC, lN] at c0 c1 c2
         refine af_of_res hr hm rfl fun hb => ?_
         simp +contextual (maxSteps := 5000000) -implicitDefEqProofs only [k_rewritten, fitL, fitI, fitS, ep7, ep6, er5, er6, er7, go_sem]
         refine callQ_self (by rfl) c0 ?_
         simp +contextual (maxSteps := 5000000) -implicitDefEqProofs only [go_sem]
         refine callQ_self (by rfl) c1 ?_
         simp +contextual (maxSteps := 5000000) -implicitDefEqProofs only [go_sem]
         refine callQ_self (by rfl) c2 ?_
         simp +contextual (maxSteps := 5000000) -implicitDefEqProofs only [go_sem]
        ·have ep06 : (p0k == 6) = false := beq_false_of_ne qp06
         refine ⟨(.mk 0 0 (.mk 0 0 (some true) []) (some true) []), ?_⟩
         refine af_of_res hr hm rfl fun hb => ?_
         simp +contextual (maxSteps := 5000000) -implicitDefEqProofs only [k_rewritten, fitL, fitI, fitS, ep7, ep6, ep06, er5, er6, er7, go_sem]
       ·have er8 : (r == 8) = false := beq_false_of_ne r8
        by_cases r12 : r = 12
        ·subst r12
         by_cases qp04 : p0k = 4
         ·subst qp04
          refine ⟨(ifP (Ex.mk p0ck p0cn p0cnn p0cks) (Pg.mk p1k p1n (Ex.mk p1ck p1cn p1cnn p1cks) p1nn p1ks) (Pg.mk 2 0 (Ex.mk 0 0 (some true) []) (some true) [])), ?_⟩
          have c0 := hc5 (Ex.mk p0ck p0cn p0cnn p0cks) (Pg.mk p1k p1n (Ex.mk p1ck p1cn p1cnn p1cks) p1nn p1ks) (Pg.mk 2 0 (Ex.mk 0 0 (some true) []) (some true) [])
          simp only [eE_mk, eP_mk, Ex.k, Ex.n, Ex.nn, Ex.ks, ifP,  lC, lN] at c0
          refine af_of_res hr hm rfl fun hb => ?_
          simp +contextual (maxSteps := 5000000) -implicitDefEqProofs only [k_rewritten, fitL, fitI, fitS, ep7, ep6, er5, er6, er7, er8, go_sem]
          refine callQ_self (by rfl) c0 ?_
          simp +contextual (maxSteps := 5000000) -implicitDefEqProofs only [go_sem]
         ·have ep04 : (p0k == 4) = false := beq_false_of_ne qp04
          refine ⟨(.mk 0 0 (.mk 0 0 (some true) []) (some true) []), ?_⟩
          refine af_of_res hr hm rfl fun hb => ?_
          simp +contextual (maxSteps := 5000000) -implicitDefEqProofs only [k_rewritten, fitL, fitI, fitS, ep7, ep6, ep04, er5, er6, er7, er8, go_sem]
        ·have er12 : (r == 12) = false := beq_false_of_ne r12
         by_cases r13 : r = 13
         ·subst r13
          by_cases qp07 : p0k = 7
          ·subst qp07
           obtain ⟨rfl, p00, rfl, hp00⟩ := okT_one hp0 (by omega)
           by_cases qp16 : p1k = 6
           ·subst qp16
            obtain ⟨rfl, p10, p11, rfl, hp10, hp11⟩ := okT_two hp1 (by omega)
            have cE := hc7 (Ex.mk p0ck p0cn p0cnn p0cks) (Ex.mk p1ck p1cn p1cnn p1cks)
            cases qb : qE (Ex.mk p0ck p0cn p0cnn p0cks) (Ex.mk p1ck p1cn p1cnn p1cks)
            ·refine ⟨(.mk 0 0 (.mk 0 0 (some true) []) (some true) []), ?_⟩
             simp only [qb, eB, eE_mk,  ] at cE
             refine af_of_res hr hm rfl fun hb => ?_
             simp +contextual (maxSteps := 5000000) -implicitDefEqProofs only [k_rewritten, fitL, fitI, fitS, ep7, ep6, er5, er6, er7, er8, er12, qb, go_sem]
             refine callQ_self (by rfl) cE ?_
             simp +contextual (maxSteps := 5000000) -implicitDefEqProofs only [go_sem]
            ·refine ⟨(sqP (Pg.mk 7 0 (Ex.mk p0ck p0cn p0cnn p0cks) p0nn [p00]) p11), ?_⟩
             have c1 := hc6 (Pg.mk 7 0 (Ex.mk p0ck p0cn p0cnn p0cks) p0nn [p00]) p11
             simp only [qb, eB, eE_mk, eP_mk, Ex.k, Ex.n, Ex.nn, Ex.ks, sqP,  lC, lN] at cE c1
             refine af_of_res hr hm rfl fun hb => ?_
             simp +contextual (maxSteps := 5000000) -implicitDefEqProofs only [k_rewritten, fitL, fitI, fitS, ep7, ep6, er5, er6, er7, er8, er12, qb, go_sem]
             refine callQ_self (by rfl) cE ?_
             simp +contextual (maxSteps := 5000000) -implicitDefEqProofs only [go_sem]
             refine callQ_self (by rfl) c1 ?_
             simp +contextual (maxSteps := 5000000) -implicitDefEqProofs only [go_sem]
           ·have ep16 : (p1k == 6) = false := beq_false_of_ne qp16
            refine ⟨(.mk 0 0 (.mk 0 0 (some true) []) (some true) []), ?_⟩
            refine af_of_res hr hm rfl fun hb => ?_
            simp +contextual (maxSteps := 5000000) -implicitDefEqProofs only [k_rewritten, fitL, fitI, fitS, ep7, ep6, ep16, er5, er6, er7, er8, er12, go_sem]
          ·have ep07 : (p0k == 7) = false := beq_false_of_ne qp07
           refine ⟨(.mk 0 0 (.mk 0 0 (some true) []) (some true) []), ?_⟩
           refine af_of_res hr hm rfl fun hb => ?_
           simp +contextual (maxSteps := 5000000) -implicitDefEqProofs only [k_rewritten, fitL, fitI, fitS, ep7, ep6, ep07, er5, er6, er7, er8, er12, go_sem]
         ·have er13 : (r == 13) = false := beq_false_of_ne r13
          refine ⟨(.mk 0 0 (.mk 0 0 (some true) []) (some true) []), ?_⟩
          refine af_of_res hr hm rfl fun hb => ?_
          simp +contextual (maxSteps := 5000000) -implicitDefEqProofs only [k_rewritten, fitL, fitI, fitS, ep7, ep6, er5, er6, er7, er8, er12, er13, go_sem]
   ·have ep5 : (pk == 5) = false := beq_false_of_ne qp5
    refine ⟨(.mk 0 0 (.mk 0 0 (some true) []) (some true) []), ?_⟩
    refine af_of_res hr hm rfl fun hb => ?_
    simp +contextual (maxSteps := 5000000) -implicitDefEqProofs only [k_rewritten, fitL, fitI, fitS, ep7, ep6, ep5, go_sem]
end Go.Ax
