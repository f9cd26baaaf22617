/- Contracts of functions of the seat, proved over the engine. No condition. -/
import Derived.Test.YtohakobkclkniaaDoorX83
import Derived.Test.YtohakobkclkniaaDoorX13
set_option linter.unusedSimpArgs false
set_option linter.unusedVariables false
set_option linter.unnecessarySimpa false
namespace Go.Ax
set_option linter.unusedSimpArgs false
set_option maxRecDepth 20000
set_option maxHeartbeats 4000000

def textPO (k v : Int) (c : Ex) (ts : List ByteArray) : ByteArray :=
 if k = 1 then ⟨#[115, 107, 105, 112]⟩ else if k = 2 then ⟨#[102, 97, 105, 108]⟩ else if k = 3 then ⟨#[97]⟩ ++ decB v.toNat else if k = 4 then ⟨#[97, 115, 115, 101, 114, 116, 32]⟩ ++ textE c else if k = 5 then ⟨#[123]⟩ ++ ts.getD 0 ⟨#[]⟩ ++ ⟨#[59, 32]⟩ ++ ts.getD 1 ⟨#[]⟩ ++ ⟨#[125]⟩ else if k = 6 then ⟨#[105, 102, 32]⟩ ++ textE c ++ ⟨#[32, 116, 104, 101, 110, 32]⟩ ++ ts.getD 0 ⟨#[]⟩ ++ ⟨#[32, 101, 108, 115, 101, 32]⟩ ++ ts.getD 1 ⟨#[]⟩ ++ ⟨#[32, 102, 105]⟩ else ⟨#[119, 104, 105, 108, 101, 32]⟩ ++ textE c ++ ⟨#[32, 100, 111, 32]⟩ ++ ts.getD 0 ⟨#[]⟩ ++ ⟨#[32, 111, 100]⟩
mutual
def textP : Pg → ByteArray
 | .mk k v c _ ks => textPO k v c (textPs ks)
def textPs : List Pg → List ByteArray
 | [] => []
 | e :: es => textP e :: textPs es
end
theorem textPs_map : ∀ {ks : List Pg}, textPs ks = ks.map textP
 | [] => rfl
 | e :: es => by rw [textPs, textPs_map]; rfl
theorem textP_mk {k v : Int} {c : Ex} {nn : Option Bool} {ks : List Pg} : textP (.mk k v c nn ks) = textPO k v c (ks.map textP) := by rw [textP, textPs_map]
theorem ePk {k n ck cn : Int} {cnn : Option Bool} {cks : List Ex} {nn : Option Bool} {ks : List Pg} : eP (.mk k n (.mk ck cn cnn cks) nn ks) = .ag [.sc (.int .i64 k), .sc (.int .i64 n), .sc (.int .i64 ck), .sc (.int .i64 cn), .ls cnn 3 (cks.map eE), .ls nn 6 (ks.map eP)] := by
 rw [eP_mk]; rfl
inductive PxOk (g : Int × Int) (k v : Int) (c : Ex) (ks : List Pg) : Prop
 | skip (h : k = 1) (hk : ks = [])
 | fail (h : k = 2) (hk : ks = [])
 | act (h : k = 3) (hk : ks = []) (n : Nat) (hv : v = n) (hn : n < 100)
 | ass (h : k = 4) (hk : ks = []) (hc : okE g c = true)
 | seq (h : k = 5) (a b : Pg) (hk : ks = [a, b])
 | ite (h : k = 6) (a b : Pg) (hk : ks = [a, b]) (hc : okE g c = true)
 | whi (h : k = 7) (a : Pg) (hk : ks = [a]) (hc : okE g c = true)
theorem px_ok {g : Int × Int} (hg : okG g = true) {k v : Int} {c : Ex} {ks : List Pg} (h : formP g k v c ks = true) : PxOk g k v c ks := by
 simp only [okG, Bool.and_eq_true, isIn_iff'] at hg
 have hw2 : IntKind.i64.wrap (g.2 - 1) = g.2 - 1 := wrap_i64 (by omega) (by omega)
 simp only [formP, Bool.and_eq_true, beq_iff_eq, numP, cP, asksP, condOk, Bool.or_eq_true, hw2] at h
 obtain ⟨hk, hv, hc⟩ := h
 unfold kidsP at hk
 have e0 : ∀ {l : List Pg}, (0 : Int) = l.length → l = [] := fun h => List.eq_nil_of_length_eq_zero (by omega)
 have e1 : ∀ {l : List Pg}, (1 : Int) = l.length → ∃ a, l = [a] := fun {l} h => by
  match l, h with
  | [a], _ => exact ⟨a, rfl⟩
  | [], h => simp at h
  | _ :: _ :: _, h => simp at h; omega
 have e2 : ∀ {l : List Pg}, (2 : Int) = l.length → ∃ a b, l = [a, b] := fun {l} h => by
  match l, h with
  | [a, b], _ => exact ⟨a, b, rfl⟩
  | [], h => simp at h
  | [_], h => simp at h
  | _ :: _ :: _ :: _, h => simp at h; omega
 by_cases h1 : k = 1
 ·subst h1; exact .skip rfl (e0 (by simpa using hk))
 by_cases h2 : k = 2
 ·subst h2; exact .fail rfl (e0 (by simpa using hk))
 by_cases h3 : k = 3
 ·subst h3
  have hv' : isIn v 0 (g.2 - 1) = true := by simpa using hv
  rw [isIn_iff'] at hv'
  exact .act rfl (e0 (by simpa using hk)) v.toNat (by omega) (by omega)
 by_cases h4 : k = 4
 ·subst h4; exact .ass rfl (e0 (by simpa using hk)) (by simp at hc; exact hc.1)
 by_cases h5 : k = 5
 ·subst h5; obtain ⟨a, b, hk⟩ := e2 (by simpa using hk); exact .seq rfl a b hk
 by_cases h6 : k = 6
 ·subst h6; obtain ⟨a, b, hk⟩ := e2 (by simpa using hk); exact .ite rfl a b hk (by simp at hc; exact hc.1)
 by_cases h7 : k = 7
 ·subst h7; obtain ⟨a, hk⟩ := e1 (by simpa using hk); exact .whi rfl a hk (by simp at hc; exact hc.1)
 exact absurd hk (by simp [h1, h2, h3, h4, h5, h6, h7])
theorem textP_size {g : Int × Int} (hg : okG g = true) : ∀ e : Pg, treeP g e = true → (textP e).size ≤ 1100 * sizeP e :=
 Pg.ind fun k v c nn ks ih hT => by
  rw [treeP_mk, Bool.and_eq_true, List.all_eq_true] at hT
  rw [textP_mk, sizeP_mk]
  have hK := px_ok hg hT.1
  cases hK with
  | skip h hk => subst h hk; simp [textPO, sizePs, bsz]
  | fail h hk => subst h hk; simp [textPO, sizePs, bsz]
  | act h hk n hv hn =>
   subst h hk hv
   have := decB_size (n := n)
   simp [textPO, sizePs, bsz]; omega
  | ass h hk hc =>
   subst h hk
   have := okE_size hg hc
   simp [textPO, sizePs, bsz]; omega
  | seq h a b hk =>
   subst h hk
   have h1 := ih a (by simp) (hT.2 a (by simp))
   have h2 := ih b (by simp) (hT.2 b (by simp))
   simp [textPO, sizePs, bsz]; omega
  | ite h a b hk hc =>
   subst h hk
   have h1 := ih a (by simp) (hT.2 a (by simp))
   have h2 := ih b (by simp) (hT.2 b (by simp))
   have := okE_size hg hc
   simp [textPO, sizePs, bsz]; omega
  | whi h a hk hc =>
   subst h hk
   have h1 := ih a (by simp) (hT.2 a (by simp))
   have := okE_size hg hc
   simp [textPO, sizePs, bsz]; omega

def k_l06Text (g f1 f2 : Nat) : RC := (.seq (.reg false [⟨none, .mv 2 (.c (.sc (.string ⟨#[]⟩)))⟩]) ((.seq ((.seq (.reg false [⟨none, .mv 3 (.t 0)⟩, ⟨none, .nck 4 (.t 3)⟩, ⟨none, .fa 5 0 (.t 4)⟩, ⟨none, .ld 6 false 1 (.t 5)⟩]) (.blk 0 ((.seq (.reg false [⟨none, .bin 8 .eql (.t 6) (.c (.sc (.int .i64 1)))⟩, ⟨none, .mv 7 (.t 8)⟩]) (.cond (.t 7) ((.seq (.reg false [⟨none, .mv 2 (.c (.sc (.string ⟨#[115, 107, 105, 112]⟩)))⟩]) (.ret))) ((.seq (.reg false [⟨none, .bin 10 .eql (.t 6) (.c (.sc (.int .i64 2)))⟩, ⟨none, .mv 9 (.t 10)⟩]) (.cond (.t 9) ((.seq (.reg false [⟨none, .mv 2 (.c (.sc (.string ⟨#[102, 97, 105, 108]⟩)))⟩]) (.ret))) ((.seq (.reg false [⟨none, .bin 12 .eql (.t 6) (.c (.sc (.int .i64 3)))⟩, ⟨none, .mv 11 (.t 12)⟩]) (.cond (.t 11) ((.seq (.reg false [⟨none, .mv 13 (.t 0)⟩, ⟨none, .nck 14 (.t 13)⟩, ⟨none, .fa 15 1 (.t 14)⟩, ⟨none, .ld 16 false 1 (.t 15)⟩, ⟨none, .call (some 17) f1 [(.t 16)]⟩, ⟨none, .bin 18 .add (.c (.sc (.string ⟨#[97]⟩))) (.t 17)⟩, ⟨none, .mv 2 (.t 18)⟩]) (.ret))) ((.seq (.reg false [⟨none, .bin 20 .eql (.t 6) (.c (.sc (.int .i64 4)))⟩, ⟨none, .mv 19 (.t 20)⟩]) (.cond (.t 19) ((.seq (.reg false [⟨none, .mv 21 (.t 0)⟩, ⟨none, .nck 22 (.t 21)⟩, ⟨none, .fa 23 2 (.t 22)⟩, ⟨none, .call (some 24) f2 [(.t 23)]⟩, ⟨none, .bin 25 .add (.c (.sc (.string ⟨#[97, 115, 115, 101, 114, 116, 32]⟩))) (.t 24)⟩, ⟨none, .mv 2 (.t 25)⟩]) (.ret))) ((.seq (.reg false [⟨none, .bin 27 .eql (.t 6) (.c (.sc (.int .i64 5)))⟩, ⟨none, .mv 26 (.t 27)⟩]) (.cond (.t 26) ((.seq (.reg true [⟨none, .mv 28 (.t 0)⟩, ⟨none, .nck 29 (.t 28)⟩, ⟨none, .fa 30 5 (.t 29)⟩, ⟨none, .ld 31 false 1 (.t 30)⟩, ⟨none, .ia 32 6 (.t 31) (.c (.sc (.int .i64 0)))⟩, ⟨none, .call (some 33) g [(.t 32)]⟩, ⟨none, .bin 34 .add (.c (.sc (.string ⟨#[123]⟩))) (.t 33)⟩, ⟨none, .bin 35 .add (.t 34) (.c (.sc (.string ⟨#[59, 32]⟩)))⟩, ⟨none, .mv 36 (.t 0)⟩, ⟨none, .nck 37 (.t 36)⟩, ⟨none, .fa 38 5 (.t 37)⟩, ⟨none, .ld 39 false 1 (.t 38)⟩, ⟨none, .ia 40 6 (.t 39) (.c (.sc (.int .i64 1)))⟩, ⟨none, .call (some 41) g [(.t 40)]⟩, ⟨none, .bin 42 .add (.t 35) (.t 41)⟩, ⟨none, .bin 43 .add (.t 42) (.c (.sc (.string ⟨#[125]⟩)))⟩, ⟨none, .mv 2 (.t 43)⟩]) (.ret))) ((.seq (.reg false [⟨none, .bin 45 .eql (.t 6) (.c (.sc (.int .i64 6)))⟩, ⟨none, .mv 44 (.t 45)⟩]) (.cond (.t 44) ((.seq (.reg true [⟨none, .mv 46 (.t 0)⟩, ⟨none, .nck 47 (.t 46)⟩, ⟨none, .fa 48 2 (.t 47)⟩, ⟨none, .call (some 49) f2 [(.t 48)]⟩, ⟨none, .bin 50 .add (.c (.sc (.string ⟨#[105, 102, 32]⟩))) (.t 49)⟩, ⟨none, .bin 51 .add (.t 50) (.c (.sc (.string ⟨#[32, 116, 104, 101, 110, 32]⟩)))⟩, ⟨none, .mv 52 (.t 0)⟩, ⟨none, .nck 53 (.t 52)⟩, ⟨none, .fa 54 5 (.t 53)⟩, ⟨none, .ld 55 false 1 (.t 54)⟩, ⟨none, .ia 56 6 (.t 55) (.c (.sc (.int .i64 0)))⟩, ⟨none, .call (some 57) g [(.t 56)]⟩, ⟨none, .bin 58 .add (.t 51) (.t 57)⟩, ⟨none, .bin 59 .add (.t 58) (.c (.sc (.string ⟨#[32, 101, 108, 115, 101, 32]⟩)))⟩, ⟨none, .mv 60 (.t 0)⟩, ⟨none, .nck 61 (.t 60)⟩, ⟨none, .fa 62 5 (.t 61)⟩, ⟨none, .ld 63 false 1 (.t 62)⟩, ⟨none, .ia 64 6 (.t 63) (.c (.sc (.int .i64 1)))⟩, ⟨none, .call (some 65) g [(.t 64)]⟩, ⟨none, .bin 66 .add (.t 59) (.t 65)⟩, ⟨none, .bin 67 .add (.t 66) (.c (.sc (.string ⟨#[32, 102, 105]⟩)))⟩, ⟨none, .mv 2 (.t 67)⟩]) (.ret))) (.skip)))))))))))))))))))))) ((.seq (.reg true [⟨none, .mv 68 (.t 0)⟩, ⟨none, .nck 69 (.t 68)⟩, ⟨none, .fa 70 2 (.t 69)⟩, ⟨none, .call (some 71) f2 [(.t 70)]⟩, ⟨none, .bin 72 .add (.c (.sc (.string ⟨#[119, 104, 105, 108, 101, 32]⟩))) (.t 71)⟩, ⟨none, .bin 73 .add (.t 72) (.c (.sc (.string ⟨#[32, 100, 111, 32]⟩)))⟩, ⟨none, .mv 74 (.t 0)⟩, ⟨none, .nck 75 (.t 74)⟩, ⟨none, .fa 76 5 (.t 75)⟩, ⟨none, .ld 77 false 1 (.t 76)⟩, ⟨none, .ia 78 6 (.t 77) (.c (.sc (.int .i64 0)))⟩, ⟨none, .call (some 79) g [(.t 78)]⟩, ⟨none, .bin 80 .add (.t 73) (.t 79)⟩, ⟨none, .bin 81 .add (.t 80) (.c (.sc (.string ⟨#[32, 111, 100]⟩)))⟩, ⟨none, .mv 2 (.t 81)⟩]) (.ret))))))
def K_l06Text (P : Program) (fno : Nat) : Prop := ∀ (g0 : Int × Int) (hg : okG g0 = true) (e : Pg) (hT : treeP g0 e = true) (hz : (textP e).size ≤ 100000000), AF P fno [.pt (eP e) 0] (.own (eT (textP e)))
theorem a_l06Text {P : Program} (hm : P.follows .mixedOrders = true) {g f1 f2 : Nat} (hr : resF P g = some (82, k_l06Text g f1 f2, [.t 2])) (hc1 : K_spDecimal P f1) (hc2 : K_l01Text P f2) : K_l06Text P g := by
 intro g0 hg e hT hz
 refine Pg.ind (p := fun e => treeP g0 e = true → (textP e).size ≤ 100000000 → AF P g [.pt (eP e) 0] (.own (eT (textP e)))) (fun k v c nn ks ih hT hz => ?_) e hT hz
 rw [treeP_mk, Bool.and_eq_true, List.all_eq_true] at hT
 have hK := px_ok hg hT.1
 rw [textP_mk] at hz ⊢
 obtain ⟨ck, cn, cnn, cks, rfl⟩ := Ex.ex c
 rw [ePk]
 refine af_of_res hr hm rfl fun hb => ?_
 cases hK with
 | skip hk hks =>
  subst hk hks
  rw [show textPO 1 v (.mk ck cn cnn cks) ([].map textP) = ⟨#[115, 107, 105, 112]⟩ by simp [textPO]] at hz ⊢
  simp only [ByteArray.size_append, bsz, List.size_toArray, List.length_cons, List.length_nil] at hz
  simp +contextual -implicitDefEqProofs only [k_l06Text, ePk, eT, eI, D.size, D.sizeL, Int.cast_ofNat_Int, Int.reduceLT, Int.reduceLE, Int.le_refl, Int.reduceBEq, Int.reduceEq, beq_self_eq_true, Int.reduceToNat, List.map_nil, List.map_cons, List.length_cons, List.length_nil, D.at, List.getD_cons_zero, List.getD_cons_succ, encP.sub, eP_size, eP_isAg, sub_agt, sub_agf, sub_sc, sub_ls, isAg_ag, isAg_sc, isAg_ls, List.drop_zero, List.take_succ_cons, List.take_zero, List.drop_succ_cons, go_sem, eB, ↓reduceIte, Nat.reduceEqDiff, Nat.reduceAdd, Nat.reduceLeDiff, Nat.reduceMul, Nat.reduceBEq, Nat.reduceBneDiff, Nat.reduceLT, Nat.reduceSub, Int.ofNat_lt, List.length_map, Int.natCast_nonneg]
 | fail hk hks =>
  subst hk hks
  rw [show textPO 2 v (.mk ck cn cnn cks) ([].map textP) = ⟨#[102, 97, 105, 108]⟩ by simp [textPO]] at hz ⊢
  simp only [ByteArray.size_append, bsz, List.size_toArray, List.length_cons, List.length_nil] at hz
  simp +contextual -implicitDefEqProofs only [k_l06Text, ePk, eT, eI, D.size, D.sizeL, Int.cast_ofNat_Int, Int.reduceLT, Int.reduceLE, Int.le_refl, Int.reduceBEq, Int.reduceEq, beq_self_eq_true, Int.reduceToNat, List.map_nil, List.map_cons, List.length_cons, List.length_nil, D.at, List.getD_cons_zero, List.getD_cons_succ, encP.sub, eP_size, eP_isAg, sub_agt, sub_agf, sub_sc, sub_ls, isAg_ag, isAg_sc, isAg_ls, List.drop_zero, List.take_succ_cons, List.take_zero, List.drop_succ_cons, go_sem, eB, ↓reduceIte, Nat.reduceEqDiff, Nat.reduceAdd, Nat.reduceLeDiff, Nat.reduceMul, Nat.reduceBEq, Nat.reduceBneDiff, Nat.reduceLT, Nat.reduceSub, Int.ofNat_lt, List.length_map, Int.natCast_nonneg]
 | act hk hks n hv hn =>
  subst hk hks hv
  rw [show textPO 3 n (.mk ck cn cnn cks) ([].map textP) = ⟨#[97]⟩ ++ decB n by simp [textPO]] at hz ⊢
  simp only [ByteArray.size_append, bsz, List.size_toArray, List.length_cons, List.length_nil] at hz
  simp +contextual -implicitDefEqProofs only [k_l06Text, ePk, eT, eI, D.size, D.sizeL, Int.cast_ofNat_Int, Int.reduceLT, Int.reduceLE, Int.le_refl, Int.reduceBEq, Int.reduceEq, beq_self_eq_true, Int.reduceToNat, List.map_nil, List.map_cons, List.length_cons, List.length_nil, D.at, List.getD_cons_zero, List.getD_cons_succ, encP.sub, eP_size, eP_isAg, sub_agt, sub_agf, sub_sc, sub_ls, isAg_ag, isAg_sc, isAg_ls, List.drop_zero, List.take_succ_cons, List.take_zero, List.drop_succ_cons, go_sem, eB, ↓reduceIte, Nat.reduceEqDiff, Nat.reduceAdd, Nat.reduceLeDiff, Nat.reduceMul, Nat.reduceBEq, Nat.reduceBneDiff, Nat.reduceLT, Nat.reduceSub, Int.ofNat_lt, List.length_map, Int.natCast_nonneg]
  refine callQ_self (ds := [eI n]) (by rfl) (hc1 n hn) ?_
  simp +contextual -implicitDefEqProofs only [ePk, eT, eI, D.size, D.sizeL, Int.cast_ofNat_Int, Int.reduceLT, Int.reduceLE, Int.le_refl, Int.reduceBEq, Int.reduceEq, beq_self_eq_true, Int.reduceToNat, List.map_nil, List.map_cons, List.length_cons, List.length_nil, D.at, List.getD_cons_zero, List.getD_cons_succ, encP.sub, eP_size, eP_isAg, sub_agt, sub_agf, sub_sc, sub_ls, isAg_ag, isAg_sc, isAg_ls, List.drop_zero, List.take_succ_cons, List.take_zero, List.drop_succ_cons, go_sem, eB, ↓reduceIte, Nat.reduceEqDiff, Nat.reduceAdd, Nat.reduceLeDiff, Nat.reduceMul, Nat.reduceBEq, Nat.reduceBneDiff, Nat.reduceLT, Nat.reduceSub, Int.ofNat_lt, List.length_map, Int.natCast_nonneg]
  simp only [ByteArray.size_append, bsz, List.size_toArray, List.length_cons, List.length_nil]
  omega
 | ass hk hks hc =>
  subst hk hks
  rw [show textPO 4 v (.mk ck cn cnn cks) ([].map textP) = ⟨#[97, 115, 115, 101, 114, 116, 32]⟩ ++ textE (.mk ck cn cnn cks) by simp [textPO]] at hz ⊢
  simp only [ByteArray.size_append, bsz, List.size_toArray, List.length_cons, List.length_nil] at hz
  simp +contextual -implicitDefEqProofs only [k_l06Text, ePk, eT, eI, D.size, D.sizeL, Int.cast_ofNat_Int, Int.reduceLT, Int.reduceLE, Int.le_refl, Int.reduceBEq, Int.reduceEq, beq_self_eq_true, Int.reduceToNat, List.map_nil, List.map_cons, List.length_cons, List.length_nil, D.at, List.getD_cons_zero, List.getD_cons_succ, encP.sub, eP_size, eP_isAg, sub_agt, sub_agf, sub_sc, sub_ls, isAg_ag, isAg_sc, isAg_ls, List.drop_zero, List.take_succ_cons, List.take_zero, List.drop_succ_cons, go_sem, eB, ↓reduceIte, Nat.reduceEqDiff, Nat.reduceAdd, Nat.reduceLeDiff, Nat.reduceMul, Nat.reduceBEq, Nat.reduceBneDiff, Nat.reduceLT, Nat.reduceSub, Int.ofNat_lt, List.length_map, Int.natCast_nonneg]
  refine callQ_le (es := [.pt (eE (.mk ck cn cnn cks)) 0]) rfl ⟨D.LeA.sub (sz := 3) (by simp [D.size, D.sizeL]) rfl (by omega) (by rw [eE_mk]; rfl), trivial⟩ (hc2 g0 hg (.mk ck cn cnn cks) (okE_tree hc) (by omega)) ?_
  simp +contextual -implicitDefEqProofs only [ePk, eT, eI, D.size, D.sizeL, Int.cast_ofNat_Int, Int.reduceLT, Int.reduceLE, Int.le_refl, Int.reduceBEq, Int.reduceEq, beq_self_eq_true, Int.reduceToNat, List.map_nil, List.map_cons, List.length_cons, List.length_nil, D.at, List.getD_cons_zero, List.getD_cons_succ, encP.sub, eP_size, eP_isAg, sub_agt, sub_agf, sub_sc, sub_ls, isAg_ag, isAg_sc, isAg_ls, List.drop_zero, List.take_succ_cons, List.take_zero, List.drop_succ_cons, go_sem, eB, ↓reduceIte, Nat.reduceEqDiff, Nat.reduceAdd, Nat.reduceLeDiff, Nat.reduceMul, Nat.reduceBEq, Nat.reduceBneDiff, Nat.reduceLT, Nat.reduceSub, Int.ofNat_lt, List.length_map, Int.natCast_nonneg]
  simp only [ByteArray.size_append, bsz, List.size_toArray, List.length_cons, List.length_nil]
  omega
 | seq hk a b hks =>
  subst hk hks
  rw [show textPO 5 v (.mk ck cn cnn cks) ([a, b].map textP) = ⟨#[123]⟩ ++ textP a ++ ⟨#[59, 32]⟩ ++ textP b ++ ⟨#[125]⟩ by simp [textPO]] at hz ⊢
  simp only [ByteArray.size_append, bsz, List.size_toArray, List.length_cons, List.length_nil] at hz
  have ta := hT.2 a (by simp)
  have tb := hT.2 b (by simp)
  simp +contextual -implicitDefEqProofs only [k_l06Text, ePk, eT, eI, D.size, D.sizeL, Int.cast_ofNat_Int, Int.reduceLT, Int.reduceLE, Int.le_refl, Int.reduceBEq, Int.reduceEq, beq_self_eq_true, Int.reduceToNat, List.map_nil, List.map_cons, List.length_cons, List.length_nil, D.at, List.getD_cons_zero, List.getD_cons_succ, encP.sub, eP_size, eP_isAg, sub_agt, sub_agf, sub_sc, sub_ls, isAg_ag, isAg_sc, isAg_ls, List.drop_zero, List.take_succ_cons, List.take_zero, List.drop_succ_cons, go_sem, eB, ↓reduceIte, Nat.reduceEqDiff, Nat.reduceAdd, Nat.reduceLeDiff, Nat.reduceMul, Nat.reduceBEq, Nat.reduceBneDiff, Nat.reduceLT, Nat.reduceSub, Int.ofNat_lt, List.length_map, Int.natCast_nonneg]
  refine callQ_self (ds := [.pt (eP a) 0]) (by rfl) (ih a (by simp) ta (by omega)) ?_
  simp +contextual -implicitDefEqProofs only [ePk, eT, eI, D.size, D.sizeL, Int.cast_ofNat_Int, Int.reduceLT, Int.reduceLE, Int.le_refl, Int.reduceBEq, Int.reduceEq, beq_self_eq_true, Int.reduceToNat, List.map_nil, List.map_cons, List.length_cons, List.length_nil, D.at, List.getD_cons_zero, List.getD_cons_succ, encP.sub, eP_size, eP_isAg, sub_agt, sub_agf, sub_sc, sub_ls, isAg_ag, isAg_sc, isAg_ls, List.drop_zero, List.take_succ_cons, List.take_zero, List.drop_succ_cons, go_sem, eB, ↓reduceIte, Nat.reduceEqDiff, Nat.reduceAdd, Nat.reduceLeDiff, Nat.reduceMul, Nat.reduceBEq, Nat.reduceBneDiff, Nat.reduceLT, Nat.reduceSub, Int.ofNat_lt, List.length_map, Int.natCast_nonneg]
  refine ⟨by simp only [ByteArray.size_append, bsz, List.size_toArray, List.length_cons, List.length_nil]; omega, by simp only [ByteArray.size_append, bsz, List.size_toArray, List.length_cons, List.length_nil]; omega, ?_⟩
  refine callQ_self (ds := [.pt (eP b) 0]) (by rfl) (ih b (by simp) tb (by omega)) ?_
  simp +contextual -implicitDefEqProofs only [ePk, eT, eI, D.size, D.sizeL, Int.cast_ofNat_Int, Int.reduceLT, Int.reduceLE, Int.le_refl, Int.reduceBEq, Int.reduceEq, beq_self_eq_true, Int.reduceToNat, List.map_nil, List.map_cons, List.length_cons, List.length_nil, D.at, List.getD_cons_zero, List.getD_cons_succ, encP.sub, eP_size, eP_isAg, sub_agt, sub_agf, sub_sc, sub_ls, isAg_ag, isAg_sc, isAg_ls, List.drop_zero, List.take_succ_cons, List.take_zero, List.drop_succ_cons, go_sem, eB, ↓reduceIte, Nat.reduceEqDiff, Nat.reduceAdd, Nat.reduceLeDiff, Nat.reduceMul, Nat.reduceBEq, Nat.reduceBneDiff, Nat.reduceLT, Nat.reduceSub, Int.ofNat_lt, List.length_map, Int.natCast_nonneg]
  exact ⟨by simp only [ByteArray.size_append, bsz, List.size_toArray, List.length_cons, List.length_nil]; omega, by simp only [ByteArray.size_append, bsz, List.size_toArray, List.length_cons, List.length_nil]; omega⟩
 | ite hk a b hks hc =>
  subst hk hks
  rw [show textPO 6 v (.mk ck cn cnn cks) ([a, b].map textP) = ⟨#[105, 102, 32]⟩ ++ textE (.mk ck cn cnn cks) ++ ⟨#[32, 116, 104, 101, 110, 32]⟩ ++ textP a ++ ⟨#[32, 101, 108, 115, 101, 32]⟩ ++ textP b ++ ⟨#[32, 102, 105]⟩ by simp [textPO]] at hz ⊢
  simp only [ByteArray.size_append, bsz, List.size_toArray, List.length_cons, List.length_nil] at hz
  have ta := hT.2 a (by simp)
  have tb := hT.2 b (by simp)
  simp +contextual -implicitDefEqProofs only [k_l06Text, ePk, eT, eI, D.size, D.sizeL, Int.cast_ofNat_Int, Int.reduceLT, Int.reduceLE, Int.le_refl, Int.reduceBEq, Int.reduceEq, beq_self_eq_true, Int.reduceToNat, List.map_nil, List.map_cons, List.length_cons, List.length_nil, D.at, List.getD_cons_zero, List.getD_cons_succ, encP.sub, eP_size, eP_isAg, sub_agt, sub_agf, sub_sc, sub_ls, isAg_ag, isAg_sc, isAg_ls, List.drop_zero, List.take_succ_cons, List.take_zero, List.drop_succ_cons, go_sem, eB, ↓reduceIte, Nat.reduceEqDiff, Nat.reduceAdd, Nat.reduceLeDiff, Nat.reduceMul, Nat.reduceBEq, Nat.reduceBneDiff, Nat.reduceLT, Nat.reduceSub, Int.ofNat_lt, List.length_map, Int.natCast_nonneg]
  refine callQ_le (es := [.pt (eE (.mk ck cn cnn cks)) 0]) rfl ⟨D.LeA.sub (sz := 3) (by simp [D.size, D.sizeL]) rfl (by omega) (by rw [eE_mk]; rfl), trivial⟩ (hc2 g0 hg (.mk ck cn cnn cks) (okE_tree hc) (by omega)) ?_
  simp +contextual -implicitDefEqProofs only [ePk, eT, eI, D.size, D.sizeL, Int.cast_ofNat_Int, Int.reduceLT, Int.reduceLE, Int.le_refl, Int.reduceBEq, Int.reduceEq, beq_self_eq_true, Int.reduceToNat, List.map_nil, List.map_cons, List.length_cons, List.length_nil, D.at, List.getD_cons_zero, List.getD_cons_succ, encP.sub, eP_size, eP_isAg, sub_agt, sub_agf, sub_sc, sub_ls, isAg_ag, isAg_sc, isAg_ls, List.drop_zero, List.take_succ_cons, List.take_zero, List.drop_succ_cons, go_sem, eB, ↓reduceIte, Nat.reduceEqDiff, Nat.reduceAdd, Nat.reduceLeDiff, Nat.reduceMul, Nat.reduceBEq, Nat.reduceBneDiff, Nat.reduceLT, Nat.reduceSub, Int.ofNat_lt, List.length_map, Int.natCast_nonneg]
  refine ⟨by simp only [ByteArray.size_append, bsz, List.size_toArray, List.length_cons, List.length_nil]; omega, by simp only [ByteArray.size_append, bsz, List.size_toArray, List.length_cons, List.length_nil]; omega, ?_⟩
  refine callQ_self (ds := [.pt (eP a) 0]) (by rfl) (ih a (by simp) ta (by omega)) ?_
  simp +contextual -implicitDefEqProofs only [ePk, eT, eI, D.size, D.sizeL, Int.cast_ofNat_Int, Int.reduceLT, Int.reduceLE, Int.le_refl, Int.reduceBEq, Int.reduceEq, beq_self_eq_true, Int.reduceToNat, List.map_nil, List.map_cons, List.length_cons, List.length_nil, D.at, List.getD_cons_zero, List.getD_cons_succ, encP.sub, eP_size, eP_isAg, sub_agt, sub_agf, sub_sc, sub_ls, isAg_ag, isAg_sc, isAg_ls, List.drop_zero, List.take_succ_cons, List.take_zero, List.drop_succ_cons, go_sem, eB, ↓reduceIte, Nat.reduceEqDiff, Nat.reduceAdd, Nat.reduceLeDiff, Nat.reduceMul, Nat.reduceBEq, Nat.reduceBneDiff, Nat.reduceLT, Nat.reduceSub, Int.ofNat_lt, List.length_map, Int.natCast_nonneg]
  refine ⟨by simp only [ByteArray.size_append, bsz, List.size_toArray, List.length_cons, List.length_nil]; omega, by simp only [ByteArray.size_append, bsz, List.size_toArray, List.length_cons, List.length_nil]; omega, ?_⟩
  refine callQ_self (ds := [.pt (eP b) 0]) (by rfl) (ih b (by simp) tb (by omega)) ?_
  simp +contextual -implicitDefEqProofs only [ePk, eT, eI, D.size, D.sizeL, Int.cast_ofNat_Int, Int.reduceLT, Int.reduceLE, Int.le_refl, Int.reduceBEq, Int.reduceEq, beq_self_eq_true, Int.reduceToNat, List.map_nil, List.map_cons, List.length_cons, List.length_nil, D.at, List.getD_cons_zero, List.getD_cons_succ, encP.sub, eP_size, eP_isAg, sub_agt, sub_agf, sub_sc, sub_ls, isAg_ag, isAg_sc, isAg_ls, List.drop_zero, List.take_succ_cons, List.take_zero, List.drop_succ_cons, go_sem, eB, ↓reduceIte, Nat.reduceEqDiff, Nat.reduceAdd, Nat.reduceLeDiff, Nat.reduceMul, Nat.reduceBEq, Nat.reduceBneDiff, Nat.reduceLT, Nat.reduceSub, Int.ofNat_lt, List.length_map, Int.natCast_nonneg]
  exact ⟨by simp only [ByteArray.size_append, bsz, List.size_toArray, List.length_cons, List.length_nil]; omega, by simp only [ByteArray.size_append, bsz, List.size_toArray, List.length_cons, List.length_nil]; omega⟩
 | whi hk a hks hc =>
  subst hk hks
  rw [show textPO 7 v (.mk ck cn cnn cks) ([a].map textP) = ⟨#[119, 104, 105, 108, 101, 32]⟩ ++ textE (.mk ck cn cnn cks) ++ ⟨#[32, 100, 111, 32]⟩ ++ textP a ++ ⟨#[32, 111, 100]⟩ by simp [textPO]] at hz ⊢
  simp only [ByteArray.size_append, bsz, List.size_toArray, List.length_cons, List.length_nil] at hz
  have ta := hT.2 a (by simp)
  simp +contextual -implicitDefEqProofs only [k_l06Text, ePk, eT, eI, D.size, D.sizeL, Int.cast_ofNat_Int, Int.reduceLT, Int.reduceLE, Int.le_refl, Int.reduceBEq, Int.reduceEq, beq_self_eq_true, Int.reduceToNat, List.map_nil, List.map_cons, List.length_cons, List.length_nil, D.at, List.getD_cons_zero, List.getD_cons_succ, encP.sub, eP_size, eP_isAg, sub_agt, sub_agf, sub_sc, sub_ls, isAg_ag, isAg_sc, isAg_ls, List.drop_zero, List.take_succ_cons, List.take_zero, List.drop_succ_cons, go_sem, eB, ↓reduceIte, Nat.reduceEqDiff, Nat.reduceAdd, Nat.reduceLeDiff, Nat.reduceMul, Nat.reduceBEq, Nat.reduceBneDiff, Nat.reduceLT, Nat.reduceSub, Int.ofNat_lt, List.length_map, Int.natCast_nonneg]
  refine callQ_le (es := [.pt (eE (.mk ck cn cnn cks)) 0]) rfl ⟨D.LeA.sub (sz := 3) (by simp [D.size, D.sizeL]) rfl (by omega) (by rw [eE_mk]; rfl), trivial⟩ (hc2 g0 hg (.mk ck cn cnn cks) (okE_tree hc) (by omega)) ?_
  simp +contextual -implicitDefEqProofs only [ePk, eT, eI, D.size, D.sizeL, Int.cast_ofNat_Int, Int.reduceLT, Int.reduceLE, Int.le_refl, Int.reduceBEq, Int.reduceEq, beq_self_eq_true, Int.reduceToNat, List.map_nil, List.map_cons, List.length_cons, List.length_nil, D.at, List.getD_cons_zero, List.getD_cons_succ, encP.sub, eP_size, eP_isAg, sub_agt, sub_agf, sub_sc, sub_ls, isAg_ag, isAg_sc, isAg_ls, List.drop_zero, List.take_succ_cons, List.take_zero, List.drop_succ_cons, go_sem, eB, ↓reduceIte, Nat.reduceEqDiff, Nat.reduceAdd, Nat.reduceLeDiff, Nat.reduceMul, Nat.reduceBEq, Nat.reduceBneDiff, Nat.reduceLT, Nat.reduceSub, Int.ofNat_lt, List.length_map, Int.natCast_nonneg]
  refine ⟨by simp only [ByteArray.size_append, bsz, List.size_toArray, List.length_cons, List.length_nil]; omega, by simp only [ByteArray.size_append, bsz, List.size_toArray, List.length_cons, List.length_nil]; omega, ?_⟩
  refine callQ_self (ds := [.pt (eP a) 0]) (by rfl) (ih a (by simp) ta (by omega)) ?_
  simp +contextual -implicitDefEqProofs only [ePk, eT, eI, D.size, D.sizeL, Int.cast_ofNat_Int, Int.reduceLT, Int.reduceLE, Int.le_refl, Int.reduceBEq, Int.reduceEq, beq_self_eq_true, Int.reduceToNat, List.map_nil, List.map_cons, List.length_cons, List.length_nil, D.at, List.getD_cons_zero, List.getD_cons_succ, encP.sub, eP_size, eP_isAg, sub_agt, sub_agf, sub_sc, sub_ls, isAg_ag, isAg_sc, isAg_ls, List.drop_zero, List.take_succ_cons, List.take_zero, List.drop_succ_cons, go_sem, eB, ↓reduceIte, Nat.reduceEqDiff, Nat.reduceAdd, Nat.reduceLeDiff, Nat.reduceMul, Nat.reduceBEq, Nat.reduceBneDiff, Nat.reduceLT, Nat.reduceSub, Int.ofNat_lt, List.length_map, Int.natCast_nonneg]
  exact ⟨by simp only [ByteArray.size_append, bsz, List.size_toArray, List.length_cons, List.length_nil]; omega, by simp only [ByteArray.size_append, bsz, List.size_toArray, List.length_cons, List.length_nil]; omega⟩

def k_progText (g f1 f2 : Nat) : RC := (.seq (.reg false [⟨none, .box 1 6 (.t 0)⟩, ⟨none, .mv 2 (.c (.sc (.string ⟨#[]⟩)))⟩]) ((.seq ((.seq (.reg false [⟨none, .fa 3 0 (.t 1)⟩, ⟨none, .ld 4 false 1 (.t 3)⟩]) (.blk 0 ((.seq (.reg false [⟨none, .bin 6 .eql (.t 4) (.c (.sc (.int .i64 1)))⟩, ⟨none, .mv 5 (.t 6)⟩]) (.cond (.t 5) ((.seq (.reg false [⟨none, .mv 2 (.c (.sc (.string ⟨#[115, 107, 105, 112]⟩)))⟩]) (.ret))) ((.seq (.reg false [⟨none, .bin 8 .eql (.t 4) (.c (.sc (.int .i64 2)))⟩, ⟨none, .mv 7 (.t 8)⟩]) (.cond (.t 7) ((.seq (.reg false [⟨none, .mv 2 (.c (.sc (.string ⟨#[102, 97, 105, 108]⟩)))⟩]) (.ret))) ((.seq (.reg false [⟨none, .bin 10 .eql (.t 4) (.c (.sc (.int .i64 3)))⟩, ⟨none, .mv 9 (.t 10)⟩]) (.cond (.t 9) ((.seq (.reg false [⟨none, .fa 11 1 (.t 1)⟩, ⟨none, .ld 12 false 1 (.t 11)⟩, ⟨none, .call (some 13) f1 [(.t 12)]⟩, ⟨none, .bin 14 .add (.c (.sc (.string ⟨#[97]⟩))) (.t 13)⟩, ⟨none, .mv 2 (.t 14)⟩]) (.ret))) ((.seq (.reg false [⟨none, .bin 16 .eql (.t 4) (.c (.sc (.int .i64 4)))⟩, ⟨none, .mv 15 (.t 16)⟩]) (.cond (.t 15) ((.seq (.reg false [⟨none, .fa 17 2 (.t 1)⟩, ⟨none, .ld 18 true 3 (.t 17)⟩, ⟨none, .call (some 19) f2 [(.t 18)]⟩, ⟨none, .bin 20 .add (.c (.sc (.string ⟨#[97, 115, 115, 101, 114, 116, 32]⟩))) (.t 19)⟩, ⟨none, .mv 2 (.t 20)⟩]) (.ret))) ((.seq (.reg false [⟨none, .bin 22 .eql (.t 4) (.c (.sc (.int .i64 5)))⟩, ⟨none, .mv 21 (.t 22)⟩]) (.cond (.t 21) ((.seq (.reg true [⟨none, .fa 23 5 (.t 1)⟩, ⟨none, .ld 24 false 1 (.t 23)⟩, ⟨none, .ia 25 6 (.t 24) (.c (.sc (.int .i64 0)))⟩, ⟨none, .ld 26 true 6 (.t 25)⟩, ⟨none, .call (some 27) g [(.t 26)]⟩, ⟨none, .bin 28 .add (.c (.sc (.string ⟨#[123]⟩))) (.t 27)⟩, ⟨none, .bin 29 .add (.t 28) (.c (.sc (.string ⟨#[59, 32]⟩)))⟩, ⟨none, .fa 30 5 (.t 1)⟩, ⟨none, .ld 31 false 1 (.t 30)⟩, ⟨none, .ia 32 6 (.t 31) (.c (.sc (.int .i64 1)))⟩, ⟨none, .ld 33 true 6 (.t 32)⟩, ⟨none, .call (some 34) g [(.t 33)]⟩, ⟨none, .bin 35 .add (.t 29) (.t 34)⟩, ⟨none, .bin 36 .add (.t 35) (.c (.sc (.string ⟨#[125]⟩)))⟩, ⟨none, .mv 2 (.t 36)⟩]) (.ret))) ((.seq (.reg false [⟨none, .bin 38 .eql (.t 4) (.c (.sc (.int .i64 6)))⟩, ⟨none, .mv 37 (.t 38)⟩]) (.cond (.t 37) ((.seq (.reg true [⟨none, .fa 39 2 (.t 1)⟩, ⟨none, .ld 40 true 3 (.t 39)⟩, ⟨none, .call (some 41) f2 [(.t 40)]⟩, ⟨none, .bin 42 .add (.c (.sc (.string ⟨#[105, 102, 32]⟩))) (.t 41)⟩, ⟨none, .bin 43 .add (.t 42) (.c (.sc (.string ⟨#[32, 116, 104, 101, 110, 32]⟩)))⟩, ⟨none, .fa 44 5 (.t 1)⟩, ⟨none, .ld 45 false 1 (.t 44)⟩, ⟨none, .ia 46 6 (.t 45) (.c (.sc (.int .i64 0)))⟩, ⟨none, .ld 47 true 6 (.t 46)⟩, ⟨none, .call (some 48) g [(.t 47)]⟩, ⟨none, .bin 49 .add (.t 43) (.t 48)⟩, ⟨none, .bin 50 .add (.t 49) (.c (.sc (.string ⟨#[32, 101, 108, 115, 101, 32]⟩)))⟩, ⟨none, .fa 51 5 (.t 1)⟩, ⟨none, .ld 52 false 1 (.t 51)⟩, ⟨none, .ia 53 6 (.t 52) (.c (.sc (.int .i64 1)))⟩, ⟨none, .ld 54 true 6 (.t 53)⟩, ⟨none, .call (some 55) g [(.t 54)]⟩, ⟨none, .bin 56 .add (.t 50) (.t 55)⟩, ⟨none, .bin 57 .add (.t 56) (.c (.sc (.string ⟨#[32, 102, 105]⟩)))⟩, ⟨none, .mv 2 (.t 57)⟩]) (.ret))) (.skip)))))))))))))))))))))) ((.seq (.reg true [⟨none, .fa 58 2 (.t 1)⟩, ⟨none, .ld 59 true 3 (.t 58)⟩, ⟨none, .call (some 60) f2 [(.t 59)]⟩, ⟨none, .bin 61 .add (.c (.sc (.string ⟨#[119, 104, 105, 108, 101, 32]⟩))) (.t 60)⟩, ⟨none, .bin 62 .add (.t 61) (.c (.sc (.string ⟨#[32, 100, 111, 32]⟩)))⟩, ⟨none, .fa 63 5 (.t 1)⟩, ⟨none, .ld 64 false 1 (.t 63)⟩, ⟨none, .ia 65 6 (.t 64) (.c (.sc (.int .i64 0)))⟩, ⟨none, .ld 66 true 6 (.t 65)⟩, ⟨none, .call (some 67) g [(.t 66)]⟩, ⟨none, .bin 68 .add (.t 62) (.t 67)⟩, ⟨none, .bin 69 .add (.t 68) (.c (.sc (.string ⟨#[32, 111, 100]⟩)))⟩, ⟨none, .mv 2 (.t 69)⟩]) (.ret))))))
def K_progText (P : Program) (fno : Nat) : Prop := ∀ (g0 : Int × Int) (hg : okG g0 = true) (e : Pg) (hT : treeP g0 e = true) (hz : (textP e).size ≤ 100000000), AF P fno [eP e] (.own (eT (textP e)))
theorem a_progText {P : Program} (hm : P.follows .mixedOrders = true) {g f1 f2 : Nat} (hr : resF P g = some (70, k_progText g f1 f2, [.t 2])) (hc1 : K_imDecimal P f1) (hc2 : K_textOf P f2) : K_progText P g := by
 intro g0 hg e hT hz
 refine Pg.ind (p := fun e => treeP g0 e = true → (textP e).size ≤ 100000000 → AF P g [eP e] (.own (eT (textP e)))) (fun k v c nn ks ih hT hz => ?_) e hT hz
 rw [treeP_mk, Bool.and_eq_true, List.all_eq_true] at hT
 have hK := px_ok hg hT.1
 rw [textP_mk] at hz ⊢
 obtain ⟨ck, cn, cnn, cks, rfl⟩ := Ex.ex c
 rw [ePk]
 refine af_of_res hr hm rfl fun hb => ?_
 cases hK with
 | skip hk hks =>
  subst hk hks
  rw [show textPO 1 v (.mk ck cn cnn cks) ([].map textP) = ⟨#[115, 107, 105, 112]⟩ by simp [textPO]] at hz ⊢
  simp only [ByteArray.size_append, bsz, List.size_toArray, List.length_cons, List.length_nil] at hz
  simp +contextual -implicitDefEqProofs only [k_progText, ePk, eT, eI, D.size, D.sizeL, Int.cast_ofNat_Int, Int.reduceLT, Int.reduceLE, Int.le_refl, Int.reduceBEq, Int.reduceEq, beq_self_eq_true, Int.reduceToNat, List.map_nil, List.map_cons, List.length_cons, List.length_nil, D.at, List.getD_cons_zero, List.getD_cons_succ, encP.sub, eP_size, eP_isAg, sub_agt, sub_agf, sub_sc, sub_ls, isAg_ag, isAg_sc, isAg_ls, List.drop_zero, List.take_succ_cons, List.take_zero, List.drop_succ_cons, go_sem, eB, ↓reduceIte, Nat.reduceEqDiff, Nat.reduceAdd, Nat.reduceLeDiff, Nat.reduceMul, Nat.reduceBEq, Nat.reduceBneDiff, Nat.reduceLT, Nat.reduceSub, Int.ofNat_lt, List.length_map, Int.natCast_nonneg]
 | fail hk hks =>
  subst hk hks
  rw [show textPO 2 v (.mk ck cn cnn cks) ([].map textP) = ⟨#[102, 97, 105, 108]⟩ by simp [textPO]] at hz ⊢
  simp only [ByteArray.size_append, bsz, List.size_toArray, List.length_cons, List.length_nil] at hz
  simp +contextual -implicitDefEqProofs only [k_progText, ePk, eT, eI, D.size, D.sizeL, Int.cast_ofNat_Int, Int.reduceLT, Int.reduceLE, Int.le_refl, Int.reduceBEq, Int.reduceEq, beq_self_eq_true, Int.reduceToNat, List.map_nil, List.map_cons, List.length_cons, List.length_nil, D.at, List.getD_cons_zero, List.getD_cons_succ, encP.sub, eP_size, eP_isAg, sub_agt, sub_agf, sub_sc, sub_ls, isAg_ag, isAg_sc, isAg_ls, List.drop_zero, List.take_succ_cons, List.take_zero, List.drop_succ_cons, go_sem, eB, ↓reduceIte, Nat.reduceEqDiff, Nat.reduceAdd, Nat.reduceLeDiff, Nat.reduceMul, Nat.reduceBEq, Nat.reduceBneDiff, Nat.reduceLT, Nat.reduceSub, Int.ofNat_lt, List.length_map, Int.natCast_nonneg]
 | act hk hks n hv hn =>
  subst hk hks hv
  rw [show textPO 3 n (.mk ck cn cnn cks) ([].map textP) = ⟨#[97]⟩ ++ decB n by simp [textPO]] at hz ⊢
  simp only [ByteArray.size_append, bsz, List.size_toArray, List.length_cons, List.length_nil] at hz
  simp +contextual -implicitDefEqProofs only [k_progText, ePk, eT, eI, D.size, D.sizeL, Int.cast_ofNat_Int, Int.reduceLT, Int.reduceLE, Int.le_refl, Int.reduceBEq, Int.reduceEq, beq_self_eq_true, Int.reduceToNat, List.map_nil, List.map_cons, List.length_cons, List.length_nil, D.at, List.getD_cons_zero, List.getD_cons_succ, encP.sub, eP_size, eP_isAg, sub_agt, sub_agf, sub_sc, sub_ls, isAg_ag, isAg_sc, isAg_ls, List.drop_zero, List.take_succ_cons, List.take_zero, List.drop_succ_cons, go_sem, eB, ↓reduceIte, Nat.reduceEqDiff, Nat.reduceAdd, Nat.reduceLeDiff, Nat.reduceMul, Nat.reduceBEq, Nat.reduceBneDiff, Nat.reduceLT, Nat.reduceSub, Int.ofNat_lt, List.length_map, Int.natCast_nonneg]
  refine callQ_self (ds := [eI n]) (by rfl) (hc1 n hn) ?_
  simp +contextual -implicitDefEqProofs only [ePk, eT, eI, D.size, D.sizeL, Int.cast_ofNat_Int, Int.reduceLT, Int.reduceLE, Int.le_refl, Int.reduceBEq, Int.reduceEq, beq_self_eq_true, Int.reduceToNat, List.map_nil, List.map_cons, List.length_cons, List.length_nil, D.at, List.getD_cons_zero, List.getD_cons_succ, encP.sub, eP_size, eP_isAg, sub_agt, sub_agf, sub_sc, sub_ls, isAg_ag, isAg_sc, isAg_ls, List.drop_zero, List.take_succ_cons, List.take_zero, List.drop_succ_cons, go_sem, eB, ↓reduceIte, Nat.reduceEqDiff, Nat.reduceAdd, Nat.reduceLeDiff, Nat.reduceMul, Nat.reduceBEq, Nat.reduceBneDiff, Nat.reduceLT, Nat.reduceSub, Int.ofNat_lt, List.length_map, Int.natCast_nonneg]
  simp only [ByteArray.size_append, bsz, List.size_toArray, List.length_cons, List.length_nil]
  omega
 | ass hk hks hc =>
  subst hk hks
  rw [show textPO 4 v (.mk ck cn cnn cks) ([].map textP) = ⟨#[97, 115, 115, 101, 114, 116, 32]⟩ ++ textE (.mk ck cn cnn cks) by simp [textPO]] at hz ⊢
  simp only [ByteArray.size_append, bsz, List.size_toArray, List.length_cons, List.length_nil] at hz
  simp +contextual -implicitDefEqProofs only [k_progText, ePk, eT, eI, D.size, D.sizeL, Int.cast_ofNat_Int, Int.reduceLT, Int.reduceLE, Int.le_refl, Int.reduceBEq, Int.reduceEq, beq_self_eq_true, Int.reduceToNat, List.map_nil, List.map_cons, List.length_cons, List.length_nil, D.at, List.getD_cons_zero, List.getD_cons_succ, encP.sub, eP_size, eP_isAg, sub_agt, sub_agf, sub_sc, sub_ls, isAg_ag, isAg_sc, isAg_ls, List.drop_zero, List.take_succ_cons, List.take_zero, List.drop_succ_cons, go_sem, eB, ↓reduceIte, Nat.reduceEqDiff, Nat.reduceAdd, Nat.reduceLeDiff, Nat.reduceMul, Nat.reduceBEq, Nat.reduceBneDiff, Nat.reduceLT, Nat.reduceSub, Int.ofNat_lt, List.length_map, Int.natCast_nonneg]
  refine callQ_self (ds := [eE (.mk ck cn cnn cks)]) (by rw [eE_mk]; rfl) (hc2 g0 hg (.mk ck cn cnn cks) (okE_tree hc) (by omega)) ?_
  simp +contextual -implicitDefEqProofs only [ePk, eT, eI, D.size, D.sizeL, Int.cast_ofNat_Int, Int.reduceLT, Int.reduceLE, Int.le_refl, Int.reduceBEq, Int.reduceEq, beq_self_eq_true, Int.reduceToNat, List.map_nil, List.map_cons, List.length_cons, List.length_nil, D.at, List.getD_cons_zero, List.getD_cons_succ, encP.sub, eP_size, eP_isAg, sub_agt, sub_agf, sub_sc, sub_ls, isAg_ag, isAg_sc, isAg_ls, List.drop_zero, List.take_succ_cons, List.take_zero, List.drop_succ_cons, go_sem, eB, ↓reduceIte, Nat.reduceEqDiff, Nat.reduceAdd, Nat.reduceLeDiff, Nat.reduceMul, Nat.reduceBEq, Nat.reduceBneDiff, Nat.reduceLT, Nat.reduceSub, Int.ofNat_lt, List.length_map, Int.natCast_nonneg]
  simp only [ByteArray.size_append, bsz, List.size_toArray, List.length_cons, List.length_nil]
  omega
 | seq hk a b hks =>
  subst hk hks
  rw [show textPO 5 v (.mk ck cn cnn cks) ([a, b].map textP) = ⟨#[123]⟩ ++ textP a ++ ⟨#[59, 32]⟩ ++ textP b ++ ⟨#[125]⟩ by simp [textPO]] at hz ⊢
  simp only [ByteArray.size_append, bsz, List.size_toArray, List.length_cons, List.length_nil] at hz
  have ta := hT.2 a (by simp)
  have tb := hT.2 b (by simp)
  simp +contextual -implicitDefEqProofs only [k_progText, ePk, eT, eI, D.size, D.sizeL, Int.cast_ofNat_Int, Int.reduceLT, Int.reduceLE, Int.le_refl, Int.reduceBEq, Int.reduceEq, beq_self_eq_true, Int.reduceToNat, List.map_nil, List.map_cons, List.length_cons, List.length_nil, D.at, List.getD_cons_zero, List.getD_cons_succ, encP.sub, eP_size, eP_isAg, sub_agt, sub_agf, sub_sc, sub_ls, isAg_ag, isAg_sc, isAg_ls, List.drop_zero, List.take_succ_cons, List.take_zero, List.drop_succ_cons, go_sem, eB, ↓reduceIte, Nat.reduceEqDiff, Nat.reduceAdd, Nat.reduceLeDiff, Nat.reduceMul, Nat.reduceBEq, Nat.reduceBneDiff, Nat.reduceLT, Nat.reduceSub, Int.ofNat_lt, List.length_map, Int.natCast_nonneg]
  refine callQ_self (ds := [eP a]) (by rfl) (ih a (by simp) ta (by omega)) ?_
  simp +contextual -implicitDefEqProofs only [ePk, eT, eI, D.size, D.sizeL, Int.cast_ofNat_Int, Int.reduceLT, Int.reduceLE, Int.le_refl, Int.reduceBEq, Int.reduceEq, beq_self_eq_true, Int.reduceToNat, List.map_nil, List.map_cons, List.length_cons, List.length_nil, D.at, List.getD_cons_zero, List.getD_cons_succ, encP.sub, eP_size, eP_isAg, sub_agt, sub_agf, sub_sc, sub_ls, isAg_ag, isAg_sc, isAg_ls, List.drop_zero, List.take_succ_cons, List.take_zero, List.drop_succ_cons, go_sem, eB, ↓reduceIte, Nat.reduceEqDiff, Nat.reduceAdd, Nat.reduceLeDiff, Nat.reduceMul, Nat.reduceBEq, Nat.reduceBneDiff, Nat.reduceLT, Nat.reduceSub, Int.ofNat_lt, List.length_map, Int.natCast_nonneg]
  refine ⟨by simp only [ByteArray.size_append, bsz, List.size_toArray, List.length_cons, List.length_nil]; omega, by simp only [ByteArray.size_append, bsz, List.size_toArray, List.length_cons, List.length_nil]; omega, ?_⟩
  refine callQ_self (ds := [eP b]) (by rfl) (ih b (by simp) tb (by omega)) ?_
  simp +contextual -implicitDefEqProofs only [ePk, eT, eI, D.size, D.sizeL, Int.cast_ofNat_Int, Int.reduceLT, Int.reduceLE, Int.le_refl, Int.reduceBEq, Int.reduceEq, beq_self_eq_true, Int.reduceToNat, List.map_nil, List.map_cons, List.length_cons, List.length_nil, D.at, List.getD_cons_zero, List.getD_cons_succ, encP.sub, eP_size, eP_isAg, sub_agt, sub_agf, sub_sc, sub_ls, isAg_ag, isAg_sc, isAg_ls, List.drop_zero, List.take_succ_cons, List.take_zero, List.drop_succ_cons, go_sem, eB, ↓reduceIte, Nat.reduceEqDiff, Nat.reduceAdd, Nat.reduceLeDiff, Nat.reduceMul, Nat.reduceBEq, Nat.reduceBneDiff, Nat.reduceLT, Nat.reduceSub, Int.ofNat_lt, List.length_map, Int.natCast_nonneg]
  exact ⟨by simp only [ByteArray.size_append, bsz, List.size_toArray, List.length_cons, List.length_nil]; omega, by simp only [ByteArray.size_append, bsz, List.size_toArray, List.length_cons, List.length_nil]; omega⟩
 | ite hk a b hks hc =>
  subst hk hks
  rw [show textPO 6 v (.mk ck cn cnn cks) ([a, b].map textP) = ⟨#[105, 102, 32]⟩ ++ textE (.mk ck cn cnn cks) ++ ⟨#[32, 116, 104, 101, 110, 32]⟩ ++ textP a ++ ⟨#[32, 101, 108, 115, 101, 32]⟩ ++ textP b ++ ⟨#[32, 102, 105]⟩ by simp [textPO]] at hz ⊢
  simp only [ByteArray.size_append, bsz, List.size_toArray, List.length_cons, List.length_nil] at hz
  have ta := hT.2 a (by simp)
  have tb := hT.2 b (by simp)
  simp +contextual -implicitDefEqProofs only [k_progText, ePk, eT, eI, D.size, D.sizeL, Int.cast_ofNat_Int, Int.reduceLT, Int.reduceLE, Int.le_refl, Int.reduceBEq, Int.reduceEq, beq_self_eq_true, Int.reduceToNat, List.map_nil, List.map_cons, List.length_cons, List.length_nil, D.at, List.getD_cons_zero, List.getD_cons_succ, encP.sub, eP_size, eP_isAg, sub_agt, sub_agf, sub_sc, sub_ls, isAg_ag, isAg_sc, isAg_ls, List.drop_zero, List.take_succ_cons, List.take_zero, List.drop_succ_cons, go_sem, eB, ↓reduceIte, Nat.reduceEqDiff, Nat.reduceAdd, Nat.reduceLeDiff, Nat.reduceMul, Nat.reduceBEq, Nat.reduceBneDiff, Nat.reduceLT, Nat.reduceSub, Int.ofNat_lt, List.length_map, Int.natCast_nonneg]
  refine callQ_self (ds := [eE (.mk ck cn cnn cks)]) (by rw [eE_mk]; rfl) (hc2 g0 hg (.mk ck cn cnn cks) (okE_tree hc) (by omega)) ?_
  simp +contextual -implicitDefEqProofs only [ePk, eT, eI, D.size, D.sizeL, Int.cast_ofNat_Int, Int.reduceLT, Int.reduceLE, Int.le_refl, Int.reduceBEq, Int.reduceEq, beq_self_eq_true, Int.reduceToNat, List.map_nil, List.map_cons, List.length_cons, List.length_nil, D.at, List.getD_cons_zero, List.getD_cons_succ, encP.sub, eP_size, eP_isAg, sub_agt, sub_agf, sub_sc, sub_ls, isAg_ag, isAg_sc, isAg_ls, List.drop_zero, List.take_succ_cons, List.take_zero, List.drop_succ_cons, go_sem, eB, ↓reduceIte, Nat.reduceEqDiff, Nat.reduceAdd, Nat.reduceLeDiff, Nat.reduceMul, Nat.reduceBEq, Nat.reduceBneDiff, Nat.reduceLT, Nat.reduceSub, Int.ofNat_lt, List.length_map, Int.natCast_nonneg]
  refine ⟨by simp only [ByteArray.size_append, bsz, List.size_toArray, List.length_cons, List.length_nil]; omega, by simp only [ByteArray.size_append, bsz, List.size_toArray, List.length_cons, List.length_nil]; omega, ?_⟩
  refine callQ_self (ds := [eP a]) (by rfl) (ih a (by simp) ta (by omega)) ?_
  simp +contextual -implicitDefEqProofs only [ePk, eT, eI, D.size, D.sizeL, Int.cast_ofNat_Int, Int.reduceLT, Int.reduceLE, Int.le_refl, Int.reduceBEq, Int.reduceEq, beq_self_eq_true, Int.reduceToNat, List.map_nil, List.map_cons, List.length_cons, List.length_nil, D.at, List.getD_cons_zero, List.getD_cons_succ, encP.sub, eP_size, eP_isAg, sub_agt, sub_agf, sub_sc, sub_ls, isAg_ag, isAg_sc, isAg_ls, List.drop_zero, List.take_succ_cons, List.take_zero, List.drop_succ_cons, go_sem, eB, ↓reduceIte, Nat.reduceEqDiff, Nat.reduceAdd, Nat.reduceLeDiff, Nat.reduceMul, Nat.reduceBEq, Nat.reduceBneDiff, Nat.reduceLT, Nat.reduceSub, Int.ofNat_lt, List.length_map, Int.natCast_nonneg]
  refine ⟨by simp only [ByteArray.size_append, bsz, List.size_toArray, List.length_cons, List.length_nil]; omega, by simp only [ByteArray.size_append, bsz, List.size_toArray, List.length_cons, List.length_nil]; omega, ?_⟩
  refine callQ_self (ds := [eP b]) (by rfl) (ih b (by simp) tb (by omega)) ?_
  simp +contextual -implicitDefEqProofs only [ePk, eT, eI, D.size, D.sizeL, Int.cast_ofNat_Int, Int.reduceLT, Int.reduceLE, Int.le_refl, Int.reduceBEq, Int.reduceEq, beq_self_eq_true, Int.reduceToNat, List.map_nil, List.map_cons, List.length_cons, List.length_nil, D.at, List.getD_cons_zero, List.getD_cons_succ, encP.sub, eP_size, eP_isAg, sub_agt, sub_agf, sub_sc, sub_ls, isAg_ag, isAg_sc, isAg_ls, List.drop_zero, List.take_succ_cons, List.take_zero, List.drop_succ_cons, go_sem, eB, ↓reduceIte, Nat.reduceEqDiff, Nat.reduceAdd, Nat.reduceLeDiff, Nat.reduceMul, Nat.reduceBEq, Nat.reduceBneDiff, Nat.reduceLT, Nat.reduceSub, Int.ofNat_lt, List.length_map, Int.natCast_nonneg]
  exact ⟨by simp only [ByteArray.size_append, bsz, List.size_toArray, List.length_cons, List.length_nil]; omega, by simp only [ByteArray.size_append, bsz, List.size_toArray, List.length_cons, List.length_nil]; omega⟩
 | whi hk a hks hc =>
  subst hk hks
  rw [show textPO 7 v (.mk ck cn cnn cks) ([a].map textP) = ⟨#[119, 104, 105, 108, 101, 32]⟩ ++ textE (.mk ck cn cnn cks) ++ ⟨#[32, 100, 111, 32]⟩ ++ textP a ++ ⟨#[32, 111, 100]⟩ by simp [textPO]] at hz ⊢
  simp only [ByteArray.size_append, bsz, List.size_toArray, List.length_cons, List.length_nil] at hz
  have ta := hT.2 a (by simp)
  simp +contextual -implicitDefEqProofs only [k_progText, ePk, eT, eI, D.size, D.sizeL, Int.cast_ofNat_Int, Int.reduceLT, Int.reduceLE, Int.le_refl, Int.reduceBEq, Int.reduceEq, beq_self_eq_true, Int.reduceToNat, List.map_nil, List.map_cons, List.length_cons, List.length_nil, D.at, List.getD_cons_zero, List.getD_cons_succ, encP.sub, eP_size, eP_isAg, sub_agt, sub_agf, sub_sc, sub_ls, isAg_ag, isAg_sc, isAg_ls, List.drop_zero, List.take_succ_cons, List.take_zero, List.drop_succ_cons, go_sem, eB, ↓reduceIte, Nat.reduceEqDiff, Nat.reduceAdd, Nat.reduceLeDiff, Nat.reduceMul, Nat.reduceBEq, Nat.reduceBneDiff, Nat.reduceLT, Nat.reduceSub, Int.ofNat_lt, List.length_map, Int.natCast_nonneg]
  refine callQ_self (ds := [eE (.mk ck cn cnn cks)]) (by rw [eE_mk]; rfl) (hc2 g0 hg (.mk ck cn cnn cks) (okE_tree hc) (by omega)) ?_
  simp +contextual -implicitDefEqProofs only [ePk, eT, eI, D.size, D.sizeL, Int.cast_ofNat_Int, Int.reduceLT, Int.reduceLE, Int.le_refl, Int.reduceBEq, Int.reduceEq, beq_self_eq_true, Int.reduceToNat, List.map_nil, List.map_cons, List.length_cons, List.length_nil, D.at, List.getD_cons_zero, List.getD_cons_succ, encP.sub, eP_size, eP_isAg, sub_agt, sub_agf, sub_sc, sub_ls, isAg_ag, isAg_sc, isAg_ls, List.drop_zero, List.take_succ_cons, List.take_zero, List.drop_succ_cons, go_sem, eB, ↓reduceIte, Nat.reduceEqDiff, Nat.reduceAdd, Nat.reduceLeDiff, Nat.reduceMul, Nat.reduceBEq, Nat.reduceBneDiff, Nat.reduceLT, Nat.reduceSub, Int.ofNat_lt, List.length_map, Int.natCast_nonneg]
  refine ⟨by simp only [ByteArray.size_append, bsz, List.size_toArray, List.length_cons, List.length_nil]; omega, by simp only [ByteArray.size_append, bsz, List.size_toArray, List.length_cons, List.length_nil]; omega, ?_⟩
  refine callQ_self (ds := [eP a]) (by rfl) (ih a (by simp) ta (by omega)) ?_
  simp +contextual -implicitDefEqProofs only [ePk, eT, eI, D.size, D.sizeL, Int.cast_ofNat_Int, Int.reduceLT, Int.reduceLE, Int.le_refl, Int.reduceBEq, Int.reduceEq, beq_self_eq_true, Int.reduceToNat, List.map_nil, List.map_cons, List.length_cons, List.length_nil, D.at, List.getD_cons_zero, List.getD_cons_succ, encP.sub, eP_size, eP_isAg, sub_agt, sub_agf, sub_sc, sub_ls, isAg_ag, isAg_sc, isAg_ls, List.drop_zero, List.take_succ_cons, List.take_zero, List.drop_succ_cons, go_sem, eB, ↓reduceIte, Nat.reduceEqDiff, Nat.reduceAdd, Nat.reduceLeDiff, Nat.reduceMul, Nat.reduceBEq, Nat.reduceBneDiff, Nat.reduceLT, Nat.reduceSub, Int.ofNat_lt, List.length_map, Int.natCast_nonneg]
  exact ⟨by simp only [ByteArray.size_append, bsz, List.size_toArray, List.length_cons, List.length_nil]; omega, by simp only [ByteArray.size_append, bsz, List.size_toArray, List.length_cons, List.length_nil]; omega⟩
def txtPg (g : Int × Int) (e : Pg) : ByteArray := if (okG g && okP g e) = true then textP e else ⟨#[]⟩
theorem okP_and {g : Int × Int} {e : Pg} (h : (okG g && okP g e) = true) : okG g = true ∧ treeP g e = true ∧ (textP e).size ≤ 100000000 := by
 simp only [okP, Bool.and_eq_true, decide_eq_true_eq] at h
 have := textP_size h.1 e h.2.2.2
 exact ⟨h.1, h.2.2.2, by omega⟩

def k_spProgText (f1 f2 : Nat) : RC := (.seq (.reg false [⟨none, .box 2 2 (.t 0)⟩, ⟨none, .box 3 6 (.t 1)⟩, ⟨none, .mv 4 (.c (.sc (.string ⟨#[]⟩)))⟩]) ((.seq ((.seq (.reg false [⟨none, .ld 5 true 2 (.t 2)⟩, ⟨none, .call (some 6) f1 [(.t 5), (.t 3)]⟩, ⟨none, .un 7 .not (.t 6)⟩]) (.cond (.t 7) ((.seq (.reg false [⟨none, .mv 4 (.c (.sc (.string ⟨#[]⟩)))⟩]) (.ret))) (.skip)))) ((.seq (.reg false [⟨none, .call (some 8) f2 [(.t 3)]⟩, ⟨none, .mv 4 (.t 8)⟩]) (.ret))))))
def K_spProgText (P : Program) (fno : Nat) : Prop := ∀ (g0 : Int × Int) (e : Pg), AF P fno [eG g0, eP e] (.own (eT (txtPg g0 e)))
theorem a_spProgText {P : Program} (hm : P.follows .mixedOrders = true) {g f1 f2 : Nat} (hr : resF P g = some (9, k_spProgText f1 f2, [.t 4])) (hc1 : K_l06Ok P f1) (hc2 : K_l06Text P f2) : K_spProgText P g := by
 intro g0 e
 refine af_of_res hr hm rfl fun hb => ?_
 simp +contextual -implicitDefEqProofs only [k_spProgText, eI, eG, eP_size, eP_isAg, encP.sub, D.size, D.sizeL, sub_agt, sub_agf, sub_sc, isAg_ag, isAg_sc, isAg_ls, D.at, List.getD_cons_zero, List.getD_cons_succ, List.drop_zero, List.take_succ_cons, List.take_zero, List.drop_succ_cons, modeOf, noPtrs, go_sem, eB, ↓reduceIte, Nat.reduceEqDiff, Nat.reduceAdd, Nat.reduceLeDiff, Nat.reduceMul, Nat.reduceBEq, Nat.reduceBneDiff, Nat.reduceLT, Nat.reduceSub, Int.ofNat_lt, List.length_map, Int.natCast_nonneg]
 refine callQ_self (ds := [eG g0, .pt (eP e) 0]) (by rfl) (hc1 g0 e) ?_
 cases ho : (okG g0 && okP g0 e)
 ·have et : txtPg g0 e = ⟨#[]⟩ := by simp only [txtPg, ho]; rfl
  rw [et]
  simp +contextual -implicitDefEqProofs only [eT, eB, bne, Bool.not_true, Bool.not_false, Bool.true_and, Bool.false_and, Bool.and_true, Bool.and_false, Bool.true_or, Bool.false_or, Bool.or_true, Bool.or_false, D.put, D.cells, D.size, D.sizeL, D.isAg, modeOf, noPtrs, List.length_map, go_sem, eI, ↓reduceIte, Nat.reduceEqDiff, Nat.reduceAdd, Nat.reduceLeDiff, Nat.reduceMul, Nat.reduceBEq, Nat.reduceBneDiff, Nat.reduceLT, Nat.reduceSub, Int.ofNat_lt, Int.natCast_nonneg]
 ·obtain ⟨hg, o1, o2⟩ := okP_and ho
  have et : txtPg g0 e = textP e := by simp only [txtPg, ho]; rfl
  rw [et]
  simp +contextual -implicitDefEqProofs only [eT, eB, eI, eG, bne, Bool.not_true, Bool.not_false, Bool.true_and, Bool.false_and, Bool.and_true, Bool.and_false, Bool.true_or, Bool.false_or, Bool.or_true, Bool.or_false, eP_size, eP_isAg, encP.sub, D.size, D.sizeL, sub_agt, sub_agf, sub_sc, isAg_ag, isAg_sc, isAg_ls, D.at, List.getD_cons_zero, List.getD_cons_succ, List.drop_zero, List.take_succ_cons, List.take_zero, List.drop_succ_cons, modeOf, noPtrs, go_sem, ↓reduceIte, Nat.reduceEqDiff, Nat.reduceAdd, Nat.reduceLeDiff, Nat.reduceMul, Nat.reduceBEq, Nat.reduceBneDiff, Nat.reduceLT, Nat.reduceSub, Int.ofNat_lt, List.length_map, Int.natCast_nonneg]
  refine callQ_self (ds := [.pt (eP e) 0]) (by rfl) (hc2 g0 hg e o1 o2) ?_
  simp +contextual -implicitDefEqProofs only [eT, D.put, D.cells, D.size, D.sizeL, D.isAg, modeOf, noPtrs, List.length_map, go_sem, eI, eB, ↓reduceIte, Nat.reduceEqDiff, Nat.reduceAdd, Nat.reduceLeDiff, Nat.reduceMul, Nat.reduceBEq, Nat.reduceBneDiff, Nat.reduceLT, Nat.reduceSub, Int.ofNat_lt, Int.natCast_nonneg]

def k_imProgText (f1 f2 : Nat) : RC := (.seq (.reg false [⟨none, .box 2 2 (.t 0)⟩, ⟨none, .box 3 6 (.t 1)⟩, ⟨none, .mv 4 (.c (.sc (.string ⟨#[]⟩)))⟩]) ((.seq ((.seq (.reg false [⟨none, .ld 5 true 2 (.t 2)⟩, ⟨none, .ld 6 true 6 (.t 3)⟩, ⟨none, .call (some 7) f1 [(.t 5), (.t 6)]⟩, ⟨none, .un 8 .not (.t 7)⟩]) (.cond (.t 8) ((.seq (.reg false [⟨none, .mv 4 (.c (.sc (.string ⟨#[]⟩)))⟩]) (.ret))) (.skip)))) ((.seq (.reg false [⟨none, .ld 9 true 6 (.t 3)⟩, ⟨none, .call (some 10) f2 [(.t 9)]⟩, ⟨none, .mv 4 (.t 10)⟩]) (.ret))))))
def K_imProgText (P : Program) (fno : Nat) : Prop := ∀ (g0 : Int × Int) (e : Pg), AF P fno [eG g0, eP e] (.own (eT (txtPg g0 e)))
theorem a_imProgText {P : Program} (hm : P.follows .mixedOrders = true) {g f1 f2 : Nat} (hr : resF P g = some (11, k_imProgText f1 f2, [.t 4])) (hc1 : K_imValidProg P f1) (hc2 : K_progText P f2) : K_imProgText P g := by
 intro g0 e
 refine af_of_res hr hm rfl fun hb => ?_
 simp +contextual -implicitDefEqProofs only [k_imProgText, eI, eG, eP_size, eP_isAg, encP.sub, D.size, D.sizeL, sub_agt, sub_agf, sub_sc, isAg_ag, isAg_sc, isAg_ls, D.at, List.getD_cons_zero, List.getD_cons_succ, List.drop_zero, List.take_succ_cons, List.take_zero, List.drop_succ_cons, modeOf, noPtrs, go_sem, eB, ↓reduceIte, Nat.reduceEqDiff, Nat.reduceAdd, Nat.reduceLeDiff, Nat.reduceMul, Nat.reduceBEq, Nat.reduceBneDiff, Nat.reduceLT, Nat.reduceSub, Int.ofNat_lt, List.length_map, Int.natCast_nonneg]
 refine callQ_self (ds := [eG g0, eP e]) (by rfl) (hc1 g0 e) ?_
 cases ho : (okG g0 && okP g0 e)
 ·have et : txtPg g0 e = ⟨#[]⟩ := by simp only [txtPg, ho]; rfl
  rw [et]
  simp +contextual -implicitDefEqProofs only [eT, eB, bne, Bool.not_true, Bool.not_false, Bool.true_and, Bool.false_and, Bool.and_true, Bool.and_false, Bool.true_or, Bool.false_or, Bool.or_true, Bool.or_false, D.put, D.cells, D.size, D.sizeL, D.isAg, modeOf, noPtrs, List.length_map, go_sem, eI, ↓reduceIte, Nat.reduceEqDiff, Nat.reduceAdd, Nat.reduceLeDiff, Nat.reduceMul, Nat.reduceBEq, Nat.reduceBneDiff, Nat.reduceLT, Nat.reduceSub, Int.ofNat_lt, Int.natCast_nonneg]
 ·obtain ⟨hg, o1, o2⟩ := okP_and ho
  have et : txtPg g0 e = textP e := by simp only [txtPg, ho]; rfl
  rw [et]
  simp +contextual -implicitDefEqProofs only [eT, eB, eI, eG, bne, Bool.not_true, Bool.not_false, Bool.true_and, Bool.false_and, Bool.and_true, Bool.and_false, Bool.true_or, Bool.false_or, Bool.or_true, Bool.or_false, eP_size, eP_isAg, encP.sub, D.size, D.sizeL, sub_agt, sub_agf, sub_sc, isAg_ag, isAg_sc, isAg_ls, D.at, List.getD_cons_zero, List.getD_cons_succ, List.drop_zero, List.take_succ_cons, List.take_zero, List.drop_succ_cons, modeOf, noPtrs, go_sem, ↓reduceIte, Nat.reduceEqDiff, Nat.reduceAdd, Nat.reduceLeDiff, Nat.reduceMul, Nat.reduceBEq, Nat.reduceBneDiff, Nat.reduceLT, Nat.reduceSub, Int.ofNat_lt, List.length_map, Int.natCast_nonneg]
  refine callQ_self (ds := [eP e]) (by rfl) (hc2 g0 hg e o1 o2) ?_
  simp +contextual -implicitDefEqProofs only [eT, D.put, D.cells, D.size, D.sizeL, D.isAg, modeOf, noPtrs, List.length_map, go_sem, eI, eB, ↓reduceIte, Nat.reduceEqDiff, Nat.reduceAdd, Nat.reduceLeDiff, Nat.reduceMul, Nat.reduceBEq, Nat.reduceBneDiff, Nat.reduceLT, Nat.reduceSub, Int.ofNat_lt, Int.natCast_nonneg]
end Go.Ax
