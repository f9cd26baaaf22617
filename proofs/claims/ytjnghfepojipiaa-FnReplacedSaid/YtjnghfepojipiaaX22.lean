/- Contracts of functions of the seat, proved over the engine. No condition. -/
import Derived.Test.YtjnghfepojipiaaX21
set_option linter.unusedSimpArgs false
set_option linter.unusedVariables false
set_option linter.unnecessarySimpa false
namespace Go.Ax
set_option linter.unusedSimpArgs false
set_option maxRecDepth 20000
set_option maxHeartbeats 4000000
def atE : Ex → List Int → Bool → Ex × Bool × Bool
 | e, [], b => (e, b, true)
 | e, p :: ps, b => if isIn p 0 ((e.ks.length : Int) - 1) = true then atE (e.ks.getD p.toNat default) ps (b || e.k == 5) else (e, b, false)
theorem atE_step {e : Ex} {xs : List Int} {i : Nat} {b : Bool} (h : i < xs.length) : atE e (xs.drop i) b = if isIn xs[i] 0 ((e.ks.length : Int) - 1) = true then atE (e.ks.getD xs[i].toNat default) (xs.drop (i + 1)) (b || e.k == 5) else (e, b, false) := by
 rw [List.drop_eq_getElem_cons h, atE]
theorem isIn_lt {p : Int} {n : Nat} (h : isIn p 0 ((n : Int) - 1) = true) : 0 ≤ p ∧ p < n ∧ p.toNat < n := by
 simp [isIn] at h; omega
theorem fitE_kid {k n : Int} {nn : Option Bool} {ks : List Ex} (h : fitE (.mk k n nn ks)) {i : Nat} (hi : i < ks.length) : fitE (ks.getD i default) := by
 rw [fitE_mk] at h
 rw [List.getD_eq_getElem?_getD, List.getElem?_eq_getElem hi]
 exact h.2 _ (List.getElem_mem hi)
theorem at_mapD {α : Type} [Inhabited α] {f : α → D} {l : List α} {i : Nat} (h : i < l.length) : D.at (l.map f) i = f (l.getD i default) := by
 rw [at_map h, List.getD_eq_getElem?_getD, List.getElem?_eq_getElem h]; rfl
theorem fitE_atE : ∀ (xs : List Int) (e : Ex) (b : Bool), fitE e → fitE (atE e xs b).1
 | [], e, b, h => h
 | p :: ps, e, b, h => by
  rw [atE]
  split
  ·next hp =>
   obtain ⟨k, n, nn, ks, rfl⟩ := Ex.ex e
   exact fitE_atE ps _ _ (fitE_kid h (isIn_lt hp).2.2)
  ·exact h

def k_l04At (f1 : Nat) : RC := (.seq (.reg false [⟨none, .mv 4 (.c (.sc (.pointer none)))⟩, ⟨none, .mv 5 (.c (.sc (.bool false)))⟩, ⟨none, .mv 6 (.c (.sc (.bool false)))⟩]) ((.seq (.reg false [⟨none, .mv 7 (.c (.sc (.bool false)))⟩]) ((.seq ((.seq (.reg false [⟨none, .mv 8 (.c (.sc (.int .i64 0)))⟩]) (.blk 0 (.loop ((.seq ((.seq (.reg false [⟨none, .mv 9 (.t 8)⟩, ⟨none, .mv 10 (.t 1)⟩, ⟨none, .len 11 (.t 10)⟩, ⟨none, .bin 12 .lss (.t 9) (.t 11)⟩]) (.cond (.t 12) (.skip) (.exit 0)))) ((.seq (.blk 1 ((.seq ((.seq (.reg true [⟨none, .mv 15 (.t 1)⟩, ⟨none, .mv 16 (.t 8)⟩, ⟨none, .ia 17 1 (.t 15) (.t 16)⟩, ⟨none, .ld 18 false 1 (.t 17)⟩, ⟨none, .mv 19 (.t 0)⟩, ⟨none, .nck 20 (.t 19)⟩, ⟨none, .fa 21 2 (.t 20)⟩, ⟨none, .ld 22 false 1 (.t 21)⟩, ⟨none, .len 23 (.t 22)⟩, ⟨none, .bin 24 .sub (.t 23) (.c (.sc (.int .i64 1)))⟩, ⟨none, .call (some 25) f1 [(.t 18), (.c (.sc (.int .i64 0))), (.t 24)]⟩, ⟨none, .un 26 .not (.t 25)⟩]) (.cond (.t 26) ((.seq (.reg false [⟨none, .mv 27 (.t 0)⟩, ⟨none, .mv 28 (.t 7)⟩, ⟨none, .mv 4 (.t 27)⟩, ⟨none, .mv 5 (.t 28)⟩, ⟨none, .mv 6 (.c (.sc (.bool false)))⟩]) (.ret))) (.skip)))) ((.seq (.reg false [⟨none, .mv 29 (.t 7)⟩, ⟨none, .mv 30 (.t 29)⟩, ⟨some (30, false), .mv 31 (.t 0)⟩, ⟨some (30, false), .nck 32 (.t 31)⟩, ⟨some (30, false), .fa 33 0 (.t 32)⟩, ⟨some (30, false), .ld 34 false 1 (.t 33)⟩, ⟨some (30, false), .bin 35 .eql (.t 34) (.c (.sc (.int .i64 5)))⟩, ⟨none, .pick 36 (.t 30) (.c (.sc (.bool true))) (.t 35)⟩, ⟨none, .mv 7 (.t 36)⟩]) (.reg true [⟨none, .mv 37 (.t 0)⟩, ⟨none, .nck 38 (.t 37)⟩, ⟨none, .fa 39 2 (.t 38)⟩, ⟨none, .ld 40 false 1 (.t 39)⟩, ⟨none, .mv 41 (.t 1)⟩, ⟨none, .mv 42 (.t 8)⟩, ⟨none, .ia 43 1 (.t 41) (.t 42)⟩, ⟨none, .ld 44 false 1 (.t 43)⟩, ⟨none, .ia 45 3 (.t 40) (.t 44)⟩, ⟨none, .mv 0 (.t 45)⟩])))))) (.reg false [⟨none, .mv 13 (.t 8)⟩, ⟨none, .bin 14 .add (.t 13) (.c (.sc (.int .i64 1)))⟩, ⟨none, .mv 8 (.t 14)⟩]))))))))) ((.seq (.reg false [⟨none, .mv 46 (.t 0)⟩, ⟨none, .mv 47 (.t 7)⟩, ⟨none, .mv 4 (.t 46)⟩, ⟨none, .mv 5 (.t 47)⟩, ⟨none, .mv 6 (.c (.sc (.bool true)))⟩]) (.ret))))))))
def E0 : Ex := .mk 0 0 (some true) []
theorem eE_E0 : eE E0 = .ag [.sc (.int .i64 0), .sc (.int .i64 0), .ls (some true) 3 []] := by unfold E0; rw [eE_mk]; rfl
def nodeE (e : Ex) (xs : List Int) : Ex × Bool × Bool := if (atE e xs false).2.2 = true then atE e xs false else (E0, false, false)

def k_nodeAt (f1 : Nat) : RC := (.seq (.reg false [⟨none, .box 2 3 (.t 0)⟩, ⟨none, .zer 4 3 (.ag [(.sc (.int .i64 0)), (.sc (.int .i64 0)), (.ls (some true) 3 [])])⟩, ⟨none, .mv 5 (.c (.sc (.bool false)))⟩, ⟨none, .mv 6 (.c (.sc (.bool false)))⟩]) ((.seq ((.seq (.reg false [⟨none, .mv 9 (.t 1)⟩, ⟨none, .len 10 (.t 9)⟩, ⟨none, .mv 11 (.c (.sc (.int .i64 0)))⟩]) (.blk 0 (.loop ((.seq (.reg false [⟨none, .bin 12 .lss (.t 11) (.t 10)⟩]) ((.seq (.cond (.t 12) (.skip) (.exit 0)) ((.seq (.blk 1 ((.seq (.reg false [⟨none, .ia 13 1 (.t 9) (.t 11)⟩, ⟨none, .ld 14 false 1 (.t 13)⟩, ⟨none, .mv 8 (.t 14)⟩]) ((.seq ((.seq (.reg false [⟨none, .mv 15 (.t 8)⟩, ⟨none, .fa 16 2 (.t 2)⟩, ⟨none, .ld 17 false 1 (.t 16)⟩, ⟨none, .len 18 (.t 17)⟩, ⟨none, .bin 19 .sub (.t 18) (.c (.sc (.int .i64 1)))⟩, ⟨none, .call (some 20) f1 [(.t 15), (.c (.sc (.int .i64 0))), (.t 19)]⟩, ⟨none, .un 21 .not (.t 20)⟩]) (.cond (.t 21) ((.seq (.reg false [⟨none, .bld 22 (.ag [(.sc (.int .i64 0)), (.sc (.int .i64 0)), (.ls (some true) 3 [])]) []⟩, ⟨none, .st 3 (.t 4) (.t 22)⟩, ⟨none, .mv 5 (.c (.sc (.bool false)))⟩, ⟨none, .mv 6 (.c (.sc (.bool false)))⟩]) (.ret))) (.skip)))) ((.seq (.reg false [⟨none, .mv 23 (.t 5)⟩, ⟨none, .mv 24 (.t 23)⟩, ⟨some (24, false), .fa 25 0 (.t 2)⟩, ⟨some (24, false), .ld 26 false 1 (.t 25)⟩, ⟨some (24, false), .bin 27 .eql (.t 26) (.c (.sc (.int .i64 5)))⟩, ⟨none, .pick 28 (.t 24) (.c (.sc (.bool true))) (.t 27)⟩, ⟨none, .mv 5 (.t 28)⟩]) (.reg false [⟨none, .fa 29 2 (.t 2)⟩, ⟨none, .ld 30 false 1 (.t 29)⟩, ⟨none, .mv 31 (.t 8)⟩, ⟨none, .ia 32 3 (.t 30) (.t 31)⟩, ⟨none, .ld 33 true 3 (.t 32)⟩, ⟨none, .st 3 (.t 2) (.t 33)⟩])))))))) (.reg false [⟨none, .bin 34 .add (.t 11) (.c (.sc (.int .i64 1)))⟩, ⟨none, .mv 11 (.t 34)⟩]))))))))))) ((.seq (.reg false [⟨none, .ld 35 true 3 (.t 2)⟩, ⟨none, .mv 36 (.t 5)⟩, ⟨none, .st 3 (.t 4) (.t 35)⟩, ⟨none, .mv 5 (.t 36)⟩, ⟨none, .mv 6 (.c (.sc (.bool true)))⟩]) (.ret))))))
def K_nodeAt (P : Program) (fno : Nat) : Prop := ∀ (e : Ex) (nn : Option Bool) (xs : List Int) (hf : fitE e), AF P fno [eE e, .ls nn 1 (xs.map eI)] (.tup ([.sh (eE (nodeE e xs).1), .own (eB (nodeE e xs).2.1), .own (eB (nodeE e xs).2.2)]))
theorem a_nodeAt {P : Program} (hm : P.follows .mixedOrders = true) {g f1 : Nat} (hr : resF P g = some (37, k_nodeAt f1, [.c 4 3 true, .t 5, .t 6])) (hc1 : K_within P f1) : K_nodeAt P g := by
 intro e nn xs hf
 obtain ⟨k0, n0, nn0, ks0, rfl⟩ := Ex.ex e
 rw [eE_mk]
 refine af_of_res hr hm rfl fun hb => ?_
 have hl : xs.length ≤ 9223372036854775807 := by
  have := hb.2.1
  simp only [D.bd, List.length_map, maxEl] at this
  exact this.1
 simp +contextual -implicitDefEqProofs only [k_nodeAt, eI, go_sem, eB, ↓reduceIte, Nat.reduceEqDiff, Nat.reduceAdd, Nat.reduceLeDiff, Nat.reduceMul, Nat.reduceBEq, Nat.reduceBneDiff, Nat.reduceLT, Nat.reduceSub, Int.ofNat_lt, List.length_map, Int.natCast_nonneg, Nat.zero_lt_one]
 refine vc_loop (α := Nat × Ex × Bool) (fun x => ⟨37, [(2, .pw 2 0 0), (4, .pw 4 0 0), (9, .im none (.ls nn 1 (xs.map eI))), (10, .im none (.sc (.int .i64 xs.length))), (5, .im none (.sc (.bool x.2.2))), (11, .im none (.sc (.int .i64 x.1)))],
   [(2, .ar false (some false) 3 [eE x.2.1]), (4, .ar true (some false) 3 [.ag [.sc (.int .i64 0), .sc (.int .i64 0), .ls (some true) 3 []]])]⟩)
  (fun x => x.1 ≤ xs.length ∧ fitE x.2.1 ∧ atE x.2.1 (xs.drop x.1) x.2.2 = atE (.mk k0 n0 nn0 ks0) xs false) (fun x => xs.length - x.1) (0, .mk k0 n0 nn0 ks0, false)
  (Ent.trans (Ent.perm (List.Perm.swap _ _ _)) (Ent.env_us (by simp only [eE_mk]) (by simp only [subEnv, go_sem, ↓reduceIte, Nat.reduceEqDiff]; simp))) ⟨Nat.zero_le _, hf, rfl⟩ ?_
 rintro ⟨i, e, b⟩ ⟨j1, j2, j3⟩
 simp only at j1 j2 j3
 obtain ⟨k, n, en, ks, rfl⟩ := Ex.ex e
 rw [eE_mk]
 by_cases hi : i < xs.length
 ·rw [atE_step hi] at j3
  have hks := (fitE_mk k n en ks).1 j2
  have e2 := at_map (f := eI) hi
  have hpn : IntKind.i64.wrap ((ks.length : Int) - 1) = (ks.length : Int) - 1 := wrap_i64 (by omega) (by omega)
  simp +contextual -implicitDefEqProofs only [e2, hi, hpn, eI, bne, Bool.not_true, Bool.not_false, Bool.true_and, Bool.false_and, Bool.and_true, Bool.and_false, Bool.true_or, Bool.false_or, Bool.or_true, Bool.or_false, go_sem, eB, ↓reduceIte, Nat.reduceEqDiff, Nat.reduceAdd, Nat.reduceLeDiff, Nat.reduceMul, Nat.reduceBEq, Nat.reduceBneDiff, Nat.reduceLT, Nat.reduceSub, Int.ofNat_lt, List.length_map, Int.natCast_nonneg, Nat.zero_lt_one]
  refine callQ_self ?_ (hc1 xs[i] 0 ((ks.length : Int) - 1)) ?_
  ·exact rfl
  cases hin : isIn xs[i] 0 ((ks.length : Int) - 1)
  ·simp only [Ex.ks_mk, hin, Bool.false_eq_true, if_false] at j3
   simp +contextual -implicitDefEqProofs only [e2, hi, hpn, hin, eI, bne, Bool.not_true, Bool.not_false, Bool.true_and, Bool.false_and, Bool.and_true, Bool.and_false, Bool.true_or, Bool.false_or, Bool.or_true, Bool.or_false, go_sem, eB, ↓reduceIte, Nat.reduceEqDiff, Nat.reduceAdd, Nat.reduceLeDiff, Nat.reduceMul, Nat.reduceBEq, Nat.reduceBneDiff, Nat.reduceLT, Nat.reduceSub, Int.ofNat_lt, List.length_map, Int.natCast_nonneg, Nat.zero_lt_one]
   simp only [nodeE, ← j3, Bool.false_eq_true, if_false, eE_E0]
   exact ⟨D.Le.refl _, D.Le.refl _, D.Le.refl _⟩
  ·simp only [Ex.ks_mk, Ex.k_mk, hin, if_true] at j3
   obtain ⟨q1, q2, q3⟩ := isIn_lt hin
   have e3 := at_mapD (f := eE) q3
   have hfk := fitE_kid j2 q3
   generalize ks.getD xs[i].toNat default = kid at e3 j3 hfk
   cases n1 : (eE kid).noPtr
   all_goals cases b
   all_goals
    simp +contextual -implicitDefEqProofs only [e2, e3, hi, hpn, hin, q1, q2, eI, encE.sub, eE_size, eE_isAg, n1, bne, Bool.not_true, Bool.not_false, Bool.true_and, Bool.false_and, Bool.and_true, Bool.and_false, Bool.true_or, Bool.false_or, Bool.or_true, Bool.or_false, go_sem, eB, ↓reduceIte, Nat.reduceEqDiff, Nat.reduceAdd, Nat.reduceLeDiff, Nat.reduceMul, Nat.reduceBEq, Nat.reduceBneDiff, Nat.reduceLT, Nat.reduceSub, Int.ofNat_lt, List.length_map, Int.natCast_nonneg, Nat.zero_lt_one]
    rw [wrap_i64 (by omega) (by omega)]
    exact ⟨(i + 1, kid, _), ⟨by simp only; omega, hfk, j3⟩, by simp only; omega, Ent.env_us rfl (by simp only [subEnv, go_sem, ↓reduceIte, Nat.reduceEqDiff]; simp)⟩
 ·rw [List.drop_eq_nil_of_le (by omega), atE] at j3
  simp only [nodeE, ← j3, if_true, eE_mk]
  cases hc : (en == some true && (List.map eE ks).isEmpty)
  all_goals
   simp +contextual -implicitDefEqProofs only [hi, hc, go_sem, eI, eB, ↓reduceIte, Nat.reduceEqDiff, Nat.reduceAdd, Nat.reduceLeDiff, Nat.reduceMul, Nat.reduceBEq, Nat.reduceBneDiff, Nat.reduceLT, Nat.reduceSub, Int.ofNat_lt, List.length_map, Int.natCast_nonneg, Nat.zero_lt_one]
def k_validExpr (f1 f2 : Nat) : RC := (.seq (.reg false [⟨none, .box 2 2 (.t 0)⟩, ⟨none, .box 3 3 (.t 1)⟩, ⟨none, .mv 4 (.c (.sc (.bool false)))⟩]) ((.seq (.reg false [⟨none, .ld 5 true 2 (.t 2)⟩, ⟨none, .call (some 6) f1 [(.t 5)]⟩, ⟨none, .mv 7 (.t 6)⟩, ⟨some (7, true), .ld 8 true 2 (.t 2)⟩, ⟨some (7, true), .ld 9 true 3 (.t 3)⟩, ⟨some (7, true), .call (some 10) f2 [(.t 8), (.t 9)]⟩, ⟨none, .pick 11 (.t 7) (.t 10) (.c (.sc (.bool false)))⟩, ⟨none, .mv 4 (.t 11)⟩]) (.ret))))
def K_validExpr (P : Program) (fno : Nat) : Prop := ∀ (g : Int × Int) (e : Ex), AF P fno [eG g, eE e] (.own (eB (okG g && okE g e)))
theorem a_validExpr {P : Program} (hm : P.follows .mixedOrders = true) {g f1 f2 : Nat} (hr : resF P g = some (12, k_validExpr f1 f2, [.t 4])) (hc1 : K_validSig P f1) (hc2 : K_isExpr P f2) : K_validExpr P g := by
 intro g e
 obtain ⟨k, n, nn, ks, rfl⟩ := Ex.ex e
 rw [eE_mk]
 refine af_of_res hr hm rfl fun hb => ?_
 simp +contextual -implicitDefEqProofs only [k_validExpr, eG, bne, Bool.not_true, Bool.not_false, Bool.true_and, Bool.false_and, Bool.and_true, Bool.and_false, Bool.true_or, Bool.false_or, Bool.or_true, Bool.or_false, go_sem, eI, eB, ↓reduceIte, Nat.reduceEqDiff, Nat.reduceAdd, Nat.reduceLeDiff, Nat.reduceMul, Nat.reduceBEq, Nat.reduceBneDiff, Nat.reduceLT, Nat.reduceSub]
 refine callQ_self ?_ (hc1 g) ?_
 ·exact rfl
 cases hg : okG g
 ·simp +contextual -implicitDefEqProofs only [hg, bne, Bool.not_true, Bool.not_false, Bool.true_and, Bool.false_and, Bool.and_true, Bool.and_false, Bool.true_or, Bool.false_or, Bool.or_true, Bool.or_false, go_sem, eI, eB, ↓reduceIte, Nat.reduceEqDiff, Nat.reduceAdd, Nat.reduceLeDiff, Nat.reduceMul, Nat.reduceBEq, Nat.reduceBneDiff, Nat.reduceLT, Nat.reduceSub]
 simp +contextual -implicitDefEqProofs only [hg, bne, Bool.not_true, Bool.not_false, Bool.true_and, Bool.false_and, Bool.and_true, Bool.and_false, Bool.true_or, Bool.false_or, Bool.or_true, Bool.or_false, go_sem, eI, eB, ↓reduceIte, Nat.reduceEqDiff, Nat.reduceAdd, Nat.reduceLeDiff, Nat.reduceMul, Nat.reduceBEq, Nat.reduceBneDiff, Nat.reduceLT, Nat.reduceSub]
 refine callQ_self (ds := [eG g, eE (.mk k n nn ks)]) ?_ (hc2 g (.mk k n nn ks)) ?_
 ·rw [eE_mk]; exact rfl
 simp +contextual -implicitDefEqProofs only [hg, bne, Bool.not_true, Bool.not_false, Bool.true_and, Bool.false_and, Bool.and_true, Bool.and_false, Bool.true_or, Bool.false_or, Bool.or_true, Bool.or_false, go_sem, eI, eB, ↓reduceIte, Nat.reduceEqDiff, Nat.reduceAdd, Nat.reduceLeDiff, Nat.reduceMul, Nat.reduceBEq, Nat.reduceBneDiff, Nat.reduceLT, Nat.reduceSub]
end Go.Ax
