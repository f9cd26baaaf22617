/- Contracts of functions of the seat, proved over the engine. No condition. -/
import Derived.Test.YtohakobkclkniaaDoorX83
import Derived.Test.YtohakobkclkniaaDoorX12
set_option linter.unusedSimpArgs false
set_option linter.unusedVariables false
set_option linter.unnecessarySimpa false
namespace Go.Ax
set_option linter.unusedSimpArgs false
set_option maxRecDepth 20000
set_option maxHeartbeats 4000000

def spT (s : Sp) : ByteArray :=
 if s.1 = 1 then ⟨#[97]⟩ ++ decB s.2.1.toNat ++ ⟨#[32]⟩ ++ decB s.2.2.2.1.toNat
 else if s.1 = 2 then ⟨#[116, 101, 115, 116, 32]⟩ ++ textE s.2.2.1 ++ ⟨#[32]⟩ ++ decB s.2.2.2.1.toNat ++ ⟨#[32]⟩ ++ decB s.2.2.2.2.toNat
 else if s.1 = 3 then ⟨#[104, 97, 108, 116]⟩ else ⟨#[102, 97, 105, 108]⟩
def spotsT (s : ByteArray) (l : List Sp) : ByteArray := l.foldl (fun s x => s ++ spT x ++ ⟨#[10]⟩) s
def startT (n : Nat) : ByteArray := ⟨#[115, 116, 97, 114, 116, 32]⟩ ++ decB n ++ ⟨#[10]⟩
def flowT (f : Fl) : ByteArray := spotsT (startT f.1.toNat) f.2.2
inductive SxOk (g : Int × Int) (s : Sp) : Prop
 | act (h : s.1 = 1) (a b : Nat) (ha : s.2.1 = a) (hb : s.2.2.2.1 = b) (ha2 : a < 100) (hb2 : b < 100)
 | test (h : s.1 = 2) (a b : Nat) (ha : s.2.2.2.1 = a) (hb : s.2.2.2.2 = b) (ha2 : a < 100) (hb2 : b < 100) (hc : okE g s.2.2.1 = true)
 | halt (h : s.1 = 3)
 | fail (h : s.1 = 4)
theorem sx_ok {g : Int × Int} (hg : okG g = true) {n : Nat} (hn : n ≤ 60) {s : Sp} (h : spOk g n s = true) : SxOk g s := by
 simp only [okG, Bool.and_eq_true, isIn_iff'] at hg
 unfold spOk at h
 split at h
 ·next h1 =>
  simp only [Bool.and_eq_true, isIn_iff'] at h
  exact .act h1 s.2.1.toNat s.2.2.2.1.toNat (by omega) (by omega) (by omega) (by omega)
 split at h
 ·next h2 =>
  simp only [Bool.and_eq_true, isIn_iff', condOk] at h
  exact .test h2 s.2.2.2.1.toNat s.2.2.2.2.toNat (by omega) (by omega) (by omega) (by omega) h.2.1.1
 split at h
 ·next h3 => exact .halt h3
 split at h
 ·next h4 => exact .fail h4
 ·cases h
theorem spT_size {g : Int × Int} (hg : okG g = true) {s : Sp} (h : SxOk g s) : (spT s).size ≤ 1020 := by
 have d1 := decB_size (n := s.2.1.toNat)
 have d2 := decB_size (n := s.2.2.2.1.toNat)
 have d3 := decB_size (n := s.2.2.2.2.toNat)
 cases h with
 | act h a b ha hb ha2 hb2 => simp [spT, h, bsz]; omega
 | test h a b ha hb ha2 hb2 hc =>
  have := okE_size hg hc
  simp [spT, h, bsz]; omega
 | halt h => simp [spT, h, bsz]
 | fail h => simp [spT, h, bsz]
theorem startT_size {n : Nat} : (startT n).size ≤ 9 := by
 have := decB_size (n := n)
 simp only [startT, ByteArray.size_append, bsz, List.size_toArray, List.length_cons, List.length_nil]
 omega
theorem spotsT_take {s : ByteArray} {l : List Sp} {i : Nat} (h : i < l.length) : spotsT s (l.take (i + 1)) = spotsT s (l.take i) ++ spT l[i] ++ ⟨#[10]⟩ := foldl_take h
theorem spotsT_nil {s : ByteArray} : spotsT s [] = s := rfl
theorem spotsT_size {g : Int × Int} (hg : okG g = true) {s : ByteArray} {l : List Sp} (h : ∀ x ∈ l, SxOk g x) : (spotsT s l).size ≤ s.size + 1021 * l.length :=
 foldl_size l s fun s x hx => by
  have := spT_size hg (h x hx)
  simp only [ByteArray.size_append, bsz, List.size_toArray, List.length_cons, List.length_nil]
  omega
theorem halt_nl : (⟨#[104, 97, 108, 116]⟩ : ByteArray) ++ ⟨#[10]⟩ = ⟨#[104, 97, 108, 116, 10]⟩ := rfl
theorem fail_nl : (⟨#[102, 97, 105, 108]⟩ : ByteArray) ++ ⟨#[10]⟩ = ⟨#[102, 97, 105, 108, 10]⟩ := rfl
theorem okFl_split {g : Int × Int} {f : Fl} (h : okFl g f = true) : okG g = true ∧ ∃ (n : Nat) (nn : Option Bool) (l : List Sp), f = ((n : Int), nn, l) ∧ n < 100 ∧ l.length ≤ 60 ∧ ∀ x ∈ l, SxOk g x := by
 simp only [okFl, Bool.and_eq_true, isIn_iff', List.all_eq_true] at h
 obtain ⟨hg, h1, h2, h3⟩ := h
 obtain ⟨a, nn, l⟩ := f
 simp only at h1 h2 h3
 exact ⟨hg, a.toNat, nn, l, by rw [show ((a.toNat : Nat) : Int) = a by omega], by omega, by omega, fun x hx => sx_ok hg (by omega) (h3 x hx)⟩
def txtFl (g : Int × Int) (f : Fl) : ByteArray := if okFl g f then flowT f else ⟨#[]⟩

def k_spFlowText (f1 f2 f3 : Nat) : RC := (.seq (.reg false [⟨none, .box 2 2 (.t 0)⟩, ⟨none, .box 3 2 (.t 1)⟩, ⟨none, .mv 4 (.c (.sc (.string ⟨#[]⟩)))⟩]) ((.seq ((.seq (.reg false [⟨none, .ld 8 true 2 (.t 2)⟩, ⟨none, .call (some 9) f1 [(.t 8), (.t 3)]⟩, ⟨none, .un 10 .not (.t 9)⟩]) (.cond (.t 10) ((.seq (.reg false [⟨none, .mv 4 (.c (.sc (.string ⟨#[]⟩)))⟩]) (.ret))) (.skip)))) ((.seq (.reg false [⟨none, .fa 11 0 (.t 3)⟩, ⟨none, .ld 12 false 1 (.t 11)⟩, ⟨none, .call (some 13) f2 [(.t 12)]⟩, ⟨none, .bin 14 .add (.c (.sc (.string ⟨#[115, 116, 97, 114, 116, 32]⟩))) (.t 13)⟩, ⟨none, .bin 15 .add (.t 14) (.c (.sc (.string ⟨#[10]⟩)))⟩, ⟨none, .mv 5 (.t 15)⟩]) ((.seq ((.seq (.reg false [⟨none, .mv 6 (.c (.sc (.int .i64 0)))⟩]) (.blk 0 (.loop ((.seq ((.seq (.reg false [⟨none, .mv 16 (.t 6)⟩, ⟨none, .fa 17 1 (.t 3)⟩, ⟨none, .ld 18 false 1 (.t 17)⟩, ⟨none, .len 19 (.t 18)⟩, ⟨none, .bin 20 .lss (.t 16) (.t 19)⟩]) (.cond (.t 20) (.skip) (.exit 0)))) ((.seq (.blk 1 ((.seq (.reg false [⟨none, .fa 23 1 (.t 3)⟩, ⟨none, .ld 24 false 1 (.t 23)⟩, ⟨none, .mv 25 (.t 6)⟩, ⟨none, .ia 26 7 (.t 24) (.t 25)⟩, ⟨none, .ld 27 true 7 (.t 26)⟩, ⟨none, .zer 7 7 (.ag [(.sc (.int .i64 0)), (.sc (.int .i64 0)), (.sc (.int .i64 0)), (.sc (.int .i64 0)), (.ls (some true) 3 []), (.sc (.int .i64 0)), (.sc (.int .i64 0))])⟩, ⟨none, .st 7 (.t 7) (.t 27)⟩]) ((.seq ((.seq (.reg false [⟨none, .fa 28 0 (.t 7)⟩, ⟨none, .ld 29 false 1 (.t 28)⟩]) (.blk 2 ((.seq (.reg false [⟨none, .bin 33 .eql (.t 29) (.c (.sc (.int .i64 1)))⟩, ⟨none, .mv 32 (.t 33)⟩]) (.cond (.t 32) (.reg true [⟨none, .mv 34 (.t 5)⟩, ⟨none, .fa 35 1 (.t 7)⟩, ⟨none, .ld 36 false 1 (.t 35)⟩, ⟨none, .call (some 37) f2 [(.t 36)]⟩, ⟨none, .bin 38 .add (.c (.sc (.string ⟨#[97]⟩))) (.t 37)⟩, ⟨none, .bin 39 .add (.t 38) (.c (.sc (.string ⟨#[32]⟩)))⟩, ⟨none, .fa 40 5 (.t 7)⟩, ⟨none, .ld 41 false 1 (.t 40)⟩, ⟨none, .call (some 42) f2 [(.t 41)]⟩, ⟨none, .bin 43 .add (.t 39) (.t 42)⟩, ⟨none, .bin 44 .add (.t 34) (.t 43)⟩, ⟨none, .mv 5 (.t 44)⟩]) ((.seq (.reg false [⟨none, .bin 46 .eql (.t 29) (.c (.sc (.int .i64 2)))⟩, ⟨none, .mv 45 (.t 46)⟩]) (.cond (.t 45) (.reg true [⟨none, .mv 47 (.t 5)⟩, ⟨none, .fa 48 2 (.t 7)⟩, ⟨none, .call (some 49) f3 [(.t 48)]⟩, ⟨none, .bin 50 .add (.c (.sc (.string ⟨#[116, 101, 115, 116, 32]⟩))) (.t 49)⟩, ⟨none, .bin 51 .add (.t 50) (.c (.sc (.string ⟨#[32]⟩)))⟩, ⟨none, .fa 52 5 (.t 7)⟩, ⟨none, .ld 53 false 1 (.t 52)⟩, ⟨none, .call (some 54) f2 [(.t 53)]⟩, ⟨none, .bin 55 .add (.t 51) (.t 54)⟩, ⟨none, .bin 56 .add (.t 55) (.c (.sc (.string ⟨#[32]⟩)))⟩, ⟨none, .fa 57 6 (.t 7)⟩, ⟨none, .ld 58 false 1 (.t 57)⟩, ⟨none, .call (some 59) f2 [(.t 58)]⟩, ⟨none, .bin 60 .add (.t 56) (.t 59)⟩, ⟨none, .bin 61 .add (.t 47) (.t 60)⟩, ⟨none, .mv 5 (.t 61)⟩]) ((.seq (.reg false [⟨none, .bin 63 .eql (.t 29) (.c (.sc (.int .i64 3)))⟩, ⟨none, .mv 62 (.t 63)⟩]) (.cond (.t 62) (.reg false [⟨none, .mv 64 (.t 5)⟩, ⟨none, .bin 65 .add (.t 64) (.c (.sc (.string ⟨#[104, 97, 108, 116]⟩)))⟩, ⟨none, .mv 5 (.t 65)⟩]) (.reg false [⟨none, .mv 30 (.t 5)⟩, ⟨none, .bin 31 .add (.t 30) (.c (.sc (.string ⟨#[102, 97, 105, 108]⟩)))⟩, ⟨none, .mv 5 (.t 31)⟩]))))))))))))) (.reg false [⟨none, .mv 66 (.t 5)⟩, ⟨none, .bin 67 .add (.t 66) (.c (.sc (.string ⟨#[10]⟩)))⟩, ⟨none, .mv 5 (.t 67)⟩])))))) (.reg false [⟨none, .mv 21 (.t 6)⟩, ⟨none, .bin 22 .add (.t 21) (.c (.sc (.int .i64 1)))⟩, ⟨none, .mv 6 (.t 22)⟩]))))))))) ((.seq (.reg false [⟨none, .mv 68 (.t 5)⟩, ⟨none, .mv 4 (.t 68)⟩]) (.ret))))))))))
def K_spFlowText (P : Program) (fno : Nat) : Prop := ∀ (g0 : Int × Int) (f : Fl), AF P fno [eG g0, eFl f] (.own (eT (txtFl g0 f)))
theorem a_spFlowText {P : Program} (hm : P.follows .mixedOrders = true) {g f1 f2 f3 : Nat} (hr : resF P g = some (69, k_spFlowText f1 f2 f3, [.t 4])) (hc1 : K_l06Flow P f1) (hc2 : K_spDecimal P f2) (hc3 : K_l01Text P f3) : K_spFlowText P g := by
 intro g0 f
 refine af_of_res hr hm rfl fun hb => ?_
 cases ho : okFl g0 f
 ·have et : txtFl g0 f = ⟨#[]⟩ := by simp only [txtFl, ho]; rfl
  rw [et]
  obtain ⟨a, nn, l⟩ := f
  simp +contextual -implicitDefEqProofs only [k_spFlowText, eFl, eS, eI, eG, D.size, D.sizeL, sub_agt, sub_agf, sub_sc, sub_ls, isAg_ag, isAg_sc, isAg_ls, D.at, List.getD_cons_zero, List.getD_cons_succ, List.drop_zero, List.take_succ_cons, List.take_zero, List.drop_succ_cons, modeOf, noPtrs, List.length_map, go_sem, eB, ↓reduceIte, Nat.reduceEqDiff, Nat.reduceAdd, Nat.reduceLeDiff, Nat.reduceMul, Nat.reduceBEq, Nat.reduceBneDiff, Nat.reduceLT, Nat.reduceSub, Int.ofNat_lt, Int.natCast_nonneg]
  refine callQ_self (ds := [eG g0, .pt (eFl (a, nn, l)) 0]) (by rfl) (hc1 g0 _) ?_
  rw [ho]
  simp +contextual -implicitDefEqProofs only [eT, eB, bne, Bool.not_true, Bool.not_false, Bool.true_and, Bool.false_and, Bool.and_true, Bool.and_false, Bool.true_or, Bool.false_or, Bool.or_true, Bool.or_false, D.size, D.sizeL, sub_agt, sub_agf, sub_sc, sub_ls, isAg_ag, isAg_sc, isAg_ls, D.at, List.getD_cons_zero, List.getD_cons_succ, List.drop_zero, List.take_succ_cons, List.take_zero, List.drop_succ_cons, modeOf, noPtrs, List.length_map, go_sem, eI, ↓reduceIte, Nat.reduceEqDiff, Nat.reduceAdd, Nat.reduceLeDiff, Nat.reduceMul, Nat.reduceBEq, Nat.reduceBneDiff, Nat.reduceLT, Nat.reduceSub, Int.ofNat_lt, Int.natCast_nonneg]
 ·obtain ⟨hg, n, nn, l, rfl, hn, hl, hx⟩ := okFl_split ho
  have et : txtFl g0 ((n : Int), nn, l) = spotsT (startT n) l := by simp only [txtFl, ho, flowT, if_true, Int.toNat_natCast]
  rw [et]
  simp +contextual -implicitDefEqProofs only [k_spFlowText, eFl, eS, eI, eG, D.size, D.sizeL, sub_agt, sub_agf, sub_sc, sub_ls, isAg_ag, isAg_sc, isAg_ls, D.at, List.getD_cons_zero, List.getD_cons_succ, List.drop_zero, List.take_succ_cons, List.take_zero, List.drop_succ_cons, modeOf, noPtrs, List.length_map, go_sem, eB, ↓reduceIte, Nat.reduceEqDiff, Nat.reduceAdd, Nat.reduceLeDiff, Nat.reduceMul, Nat.reduceBEq, Nat.reduceBneDiff, Nat.reduceLT, Nat.reduceSub, Int.ofNat_lt, Int.natCast_nonneg]
  refine callQ_self (ds := [eG g0, .pt (eFl ((n : Int), nn, l)) 0]) (by rfl) (hc1 g0 _) ?_
  rw [ho]
  simp +contextual -implicitDefEqProofs only [eT, eB, eI, bne, Bool.not_true, Bool.not_false, Bool.true_and, Bool.false_and, Bool.and_true, Bool.and_false, Bool.true_or, Bool.false_or, Bool.or_true, Bool.or_false, D.size, D.sizeL, sub_agt, sub_agf, sub_sc, sub_ls, isAg_ag, isAg_sc, isAg_ls, D.at, List.getD_cons_zero, List.getD_cons_succ, List.drop_zero, List.take_succ_cons, List.take_zero, List.drop_succ_cons, modeOf, noPtrs, List.length_map, go_sem, ↓reduceIte, Nat.reduceEqDiff, Nat.reduceAdd, Nat.reduceLeDiff, Nat.reduceMul, Nat.reduceBEq, Nat.reduceBneDiff, Nat.reduceLT, Nat.reduceSub, Int.ofNat_lt, Int.natCast_nonneg]
  refine callQ_self (ds := [eI n]) (by rfl) (hc2 n hn) ?_
  have hd := decB_size (n := n)
  simp +contextual -implicitDefEqProofs only [eT, eB, eI, bne, Bool.not_true, Bool.not_false, Bool.true_and, Bool.false_and, Bool.and_true, Bool.and_false, Bool.true_or, Bool.false_or, Bool.or_true, Bool.or_false, D.size, D.sizeL, sub_agt, sub_agf, sub_sc, sub_ls, isAg_ag, isAg_sc, isAg_ls, D.at, List.getD_cons_zero, List.getD_cons_succ, List.drop_zero, List.take_succ_cons, List.take_zero, List.drop_succ_cons, modeOf, noPtrs, List.length_map, go_sem, ↓reduceIte, Nat.reduceEqDiff, Nat.reduceAdd, Nat.reduceLeDiff, Nat.reduceMul, Nat.reduceBEq, Nat.reduceBneDiff, Nat.reduceLT, Nat.reduceSub, Int.ofNat_lt, Int.natCast_nonneg]
  refine ⟨by simp only [ByteArray.size_append, bsz, List.size_toArray, List.length_cons, List.length_nil]; omega, by simp only [ByteArray.size_append, bsz, List.size_toArray, List.length_cons, List.length_nil]; omega, ?_⟩
  refine vc_onU (α := Nat) [2, 5, 6, 7, 16, 17, 18, 19, 20, 21, 22, 23, 24, 25, 26, 27, 28, 29, 30, 31, 32, 33, 34, 35, 36, 37, 38, 39, 40, 41, 42, 43, 44, 45, 46, 47, 48, 49, 50, 51, 52, 53, 54, 55, 56, 57, 58, 59, 60, 61, 62, 63, 64, 65, 66, 67] (fun i => [(6, .im none (.sc (.int .i64 i))), (5, .im none (.sc (.string (spotsT (startT n) (l.take i)))))]) (fun i => [(3, .ar false (some false) 2 [.ag [.sc (.int .i64 (n : Int)), .ls nn 7 (l.map eSp)]])]) (fun i => i ≤ l.length) (fun i => l.length - i) 0 (Ent.to [2] (by simp only [go_sem, ↓reduceIte, Nat.reduceEqDiff, Nat.reduceBEq, Nat.reduceBneDiff]; rfl) rfl (by simp) (by rfl) (by simp only [subEnv, go_sem, ↓reduceIte, Nat.reduceEqDiff, Nat.reduceBEq, keep, memN, Bool.or_false, Bool.false_or, Bool.or_self] <;> simp [spotsT_nil, startT])) (Nat.zero_le _) ?_
  intro i hi0
  by_cases hi : i < l.length
  ·have e1 := at_map (f := eSp) hi
   have ht := spotsT_take (s := startT n) hi
   have hs := hx _ (List.getElem_mem hi)
   have hz := spotsT_size hg (s := startT n) (l := l.take i) fun x hx' => hx x (List.mem_of_mem_take hx')
   have hz0 := startT_size (n := n)
   have hz1 := spT_size hg hs
   rw [List.length_take] at hz
   generalize spotsT (startT n) (l.take i) = s at ht hz ⊢
   generalize l[i] = x at ht hs hz1 e1
   obtain ⟨k, v, ⟨ck, cn, cnn, cks⟩, t, u⟩ := x
   cases hs with
   | act h a b ha hb ha2 hb2 =>
    simp only at h ha hb
    subst h ha hb
    have da := decB_size (n := a)
    have db := decB_size (n := b)
    rw [show spT (1, (a : Int), (.mk ck cn cnn cks), (b : Int), u) = ⟨#[97]⟩ ++ decB a ++ ⟨#[32]⟩ ++ decB b by simp [spT]] at ht
    simp +contextual -implicitDefEqProofs only [hi, e1, eSp, Ex.k_mk, Ex.n_mk, Ex.nn_mk, Ex.ks_mk, eT, eI, D.put, D.cells, Int.cast_ofNat_Int, Int.reduceLT, Int.reduceLE, Int.le_refl, Int.reduceBEq, Int.reduceEq, beq_self_eq_true, Int.reduceToNat, D.size, D.sizeL, sub_agt, sub_agf, sub_sc, sub_ls, isAg_ag, isAg_sc, isAg_ls, List.getD_cons_zero, List.getD_cons_succ, List.drop_zero, List.take_succ_cons, List.take_zero, List.drop_succ_cons, modeOf, noPtrs, List.length_map, go_sem, eB, ↓reduceIte, Nat.reduceEqDiff, Nat.reduceAdd, Nat.reduceLeDiff, Nat.reduceMul, Nat.reduceBEq, Nat.reduceBneDiff, Nat.reduceLT, Nat.reduceSub, Int.ofNat_lt, Int.natCast_nonneg]
    refine callQ_self (ds := [eI a]) (by rfl) (hc2 a ha2) ?_
    simp +contextual -implicitDefEqProofs only [hi, e1, eSp, Ex.k_mk, Ex.n_mk, Ex.nn_mk, Ex.ks_mk, eT, eI, D.put, D.cells, Int.cast_ofNat_Int, Int.reduceLT, Int.reduceLE, Int.le_refl, Int.reduceBEq, Int.reduceEq, beq_self_eq_true, Int.reduceToNat, D.size, D.sizeL, sub_agt, sub_agf, sub_sc, sub_ls, isAg_ag, isAg_sc, isAg_ls, List.getD_cons_zero, List.getD_cons_succ, List.drop_zero, List.take_succ_cons, List.take_zero, List.drop_succ_cons, modeOf, noPtrs, List.length_map, go_sem, eB, ↓reduceIte, Nat.reduceEqDiff, Nat.reduceAdd, Nat.reduceLeDiff, Nat.reduceMul, Nat.reduceBEq, Nat.reduceBneDiff, Nat.reduceLT, Nat.reduceSub, Int.ofNat_lt, Int.natCast_nonneg]
    refine ⟨by simp only [ByteArray.size_append, bsz, List.size_toArray, List.length_cons, List.length_nil]; omega, by simp only [ByteArray.size_append, bsz, List.size_toArray, List.length_cons, List.length_nil]; omega, ?_⟩
    refine callQ_self (ds := [eI b]) (by rfl) (hc2 b hb2) ?_
    simp +contextual -implicitDefEqProofs only [hi, e1, eSp, Ex.k_mk, Ex.n_mk, Ex.nn_mk, Ex.ks_mk, eT, eI, D.put, D.cells, Int.cast_ofNat_Int, Int.reduceLT, Int.reduceLE, Int.le_refl, Int.reduceBEq, Int.reduceEq, beq_self_eq_true, Int.reduceToNat, D.size, D.sizeL, sub_agt, sub_agf, sub_sc, sub_ls, isAg_ag, isAg_sc, isAg_ls, List.getD_cons_zero, List.getD_cons_succ, List.drop_zero, List.take_succ_cons, List.take_zero, List.drop_succ_cons, modeOf, noPtrs, List.length_map, go_sem, eB, ↓reduceIte, Nat.reduceEqDiff, Nat.reduceAdd, Nat.reduceLeDiff, Nat.reduceMul, Nat.reduceBEq, Nat.reduceBneDiff, Nat.reduceLT, Nat.reduceSub, Int.ofNat_lt, Int.natCast_nonneg]
    refine ⟨by simp only [ByteArray.size_append, bsz, List.size_toArray, List.length_cons, List.length_nil]; omega, by simp only [ByteArray.size_append, bsz, List.size_toArray, List.length_cons, List.length_nil]; omega, by simp only [ByteArray.size_append, bsz, List.size_toArray, List.length_cons, List.length_nil]; omega, i + 1, by omega, by omega, ?_⟩
    rw [wrap_i64 (by omega) (by omega)]
    exact Ent.to [7] (by simp only [go_sem, ↓reduceIte, Nat.reduceEqDiff, Nat.reduceBEq, Nat.reduceBneDiff]; rfl) rfl (by simp) (by rfl) (by simp only [subEnv, go_sem, ↓reduceIte, Nat.reduceEqDiff, Nat.reduceBEq, keep, memN, Bool.or_false, Bool.false_or, Bool.or_self] <;> simp [ht])
   | test h a b ha hb ha2 hb2 hc =>
    simp only at h ha hb
    subst h ha hb
    have da := decB_size (n := a)
    have db := decB_size (n := b)
    have hzc : (textE (.mk ck cn cnn cks)).size ≤ 1000 := okE_size hg hc
    rw [show spT (2, v, (.mk ck cn cnn cks), (a : Int), (b : Int)) = ⟨#[116, 101, 115, 116, 32]⟩ ++ textE (.mk ck cn cnn cks) ++ ⟨#[32]⟩ ++ decB a ++ ⟨#[32]⟩ ++ decB b by simp [spT]] at ht
    simp +contextual -implicitDefEqProofs only [hi, e1, eSp, Ex.k_mk, Ex.n_mk, Ex.nn_mk, Ex.ks_mk, eT, eI, D.put, D.cells, Int.cast_ofNat_Int, Int.reduceLT, Int.reduceLE, Int.le_refl, Int.reduceBEq, Int.reduceEq, beq_self_eq_true, Int.reduceToNat, D.size, D.sizeL, sub_agt, sub_agf, sub_sc, sub_ls, isAg_ag, isAg_sc, isAg_ls, List.getD_cons_zero, List.getD_cons_succ, List.drop_zero, List.take_succ_cons, List.take_zero, List.drop_succ_cons, modeOf, noPtrs, List.length_map, go_sem, eB, ↓reduceIte, Nat.reduceEqDiff, Nat.reduceAdd, Nat.reduceLeDiff, Nat.reduceMul, Nat.reduceBEq, Nat.reduceBneDiff, Nat.reduceLT, Nat.reduceSub, Int.ofNat_lt, Int.natCast_nonneg]
    refine callQ_le (es := [.pt (eE (.mk ck cn cnn cks)) 0]) rfl ⟨D.LeA.sub (sz := 3) (by simp [D.at, D.size, D.sizeL]) rfl (by omega) (by rw [eE_mk]; rfl), trivial⟩ (hc3 g0 hg (.mk ck cn cnn cks) (okE_tree hc) (by omega)) ?_
    simp +contextual -implicitDefEqProofs only [hi, e1, eSp, Ex.k_mk, Ex.n_mk, Ex.nn_mk, Ex.ks_mk, eT, eI, D.put, D.cells, Int.cast_ofNat_Int, Int.reduceLT, Int.reduceLE, Int.le_refl, Int.reduceBEq, Int.reduceEq, beq_self_eq_true, Int.reduceToNat, D.size, D.sizeL, sub_agt, sub_agf, sub_sc, sub_ls, isAg_ag, isAg_sc, isAg_ls, List.getD_cons_zero, List.getD_cons_succ, List.drop_zero, List.take_succ_cons, List.take_zero, List.drop_succ_cons, modeOf, noPtrs, List.length_map, go_sem, eB, ↓reduceIte, Nat.reduceEqDiff, Nat.reduceAdd, Nat.reduceLeDiff, Nat.reduceMul, Nat.reduceBEq, Nat.reduceBneDiff, Nat.reduceLT, Nat.reduceSub, Int.ofNat_lt, Int.natCast_nonneg]
    refine ⟨by simp only [ByteArray.size_append, bsz, List.size_toArray, List.length_cons, List.length_nil]; omega, by simp only [ByteArray.size_append, bsz, List.size_toArray, List.length_cons, List.length_nil]; omega, ?_⟩
    refine callQ_self (ds := [eI a]) (by rfl) (hc2 a ha2) ?_
    simp +contextual -implicitDefEqProofs only [hi, e1, eSp, Ex.k_mk, Ex.n_mk, Ex.nn_mk, Ex.ks_mk, eT, eI, D.put, D.cells, Int.cast_ofNat_Int, Int.reduceLT, Int.reduceLE, Int.le_refl, Int.reduceBEq, Int.reduceEq, beq_self_eq_true, Int.reduceToNat, D.size, D.sizeL, sub_agt, sub_agf, sub_sc, sub_ls, isAg_ag, isAg_sc, isAg_ls, List.getD_cons_zero, List.getD_cons_succ, List.drop_zero, List.take_succ_cons, List.take_zero, List.drop_succ_cons, modeOf, noPtrs, List.length_map, go_sem, eB, ↓reduceIte, Nat.reduceEqDiff, Nat.reduceAdd, Nat.reduceLeDiff, Nat.reduceMul, Nat.reduceBEq, Nat.reduceBneDiff, Nat.reduceLT, Nat.reduceSub, Int.ofNat_lt, Int.natCast_nonneg]
    refine ⟨by simp only [ByteArray.size_append, bsz, List.size_toArray, List.length_cons, List.length_nil]; omega, by simp only [ByteArray.size_append, bsz, List.size_toArray, List.length_cons, List.length_nil]; omega, ?_⟩
    refine callQ_self (ds := [eI b]) (by rfl) (hc2 b hb2) ?_
    simp +contextual -implicitDefEqProofs only [hi, e1, eSp, Ex.k_mk, Ex.n_mk, Ex.nn_mk, Ex.ks_mk, eT, eI, D.put, D.cells, Int.cast_ofNat_Int, Int.reduceLT, Int.reduceLE, Int.le_refl, Int.reduceBEq, Int.reduceEq, beq_self_eq_true, Int.reduceToNat, D.size, D.sizeL, sub_agt, sub_agf, sub_sc, sub_ls, isAg_ag, isAg_sc, isAg_ls, List.getD_cons_zero, List.getD_cons_succ, List.drop_zero, List.take_succ_cons, List.take_zero, List.drop_succ_cons, modeOf, noPtrs, List.length_map, go_sem, eB, ↓reduceIte, Nat.reduceEqDiff, Nat.reduceAdd, Nat.reduceLeDiff, Nat.reduceMul, Nat.reduceBEq, Nat.reduceBneDiff, Nat.reduceLT, Nat.reduceSub, Int.ofNat_lt, Int.natCast_nonneg]
    refine ⟨by simp only [ByteArray.size_append, bsz, List.size_toArray, List.length_cons, List.length_nil]; omega, by simp only [ByteArray.size_append, bsz, List.size_toArray, List.length_cons, List.length_nil]; omega, by simp only [ByteArray.size_append, bsz, List.size_toArray, List.length_cons, List.length_nil]; omega, i + 1, by omega, by omega, ?_⟩
    rw [wrap_i64 (by omega) (by omega)]
    exact Ent.to [7] (by simp only [go_sem, ↓reduceIte, Nat.reduceEqDiff, Nat.reduceBEq, Nat.reduceBneDiff]; rfl) rfl (by simp) (by rfl) (by simp only [subEnv, go_sem, ↓reduceIte, Nat.reduceEqDiff, Nat.reduceBEq, keep, memN, Bool.or_false, Bool.false_or, Bool.or_self] <;> simp [ht])
   | halt h =>
    simp only at h
    subst h
    rw [show spT (3, v, (.mk ck cn cnn cks), t, u) = ⟨#[104, 97, 108, 116]⟩ by simp [spT]] at ht
    simp +contextual -implicitDefEqProofs only [hi, e1, eSp, Ex.k_mk, Ex.n_mk, Ex.nn_mk, Ex.ks_mk, eT, eI, D.put, D.cells, Int.cast_ofNat_Int, Int.reduceLT, Int.reduceLE, Int.le_refl, Int.reduceBEq, Int.reduceEq, beq_self_eq_true, Int.reduceToNat, D.size, D.sizeL, sub_agt, sub_agf, sub_sc, sub_ls, isAg_ag, isAg_sc, isAg_ls, List.getD_cons_zero, List.getD_cons_succ, List.drop_zero, List.take_succ_cons, List.take_zero, List.drop_succ_cons, modeOf, noPtrs, List.length_map, go_sem, eB, ↓reduceIte, Nat.reduceEqDiff, Nat.reduceAdd, Nat.reduceLeDiff, Nat.reduceMul, Nat.reduceBEq, Nat.reduceBneDiff, Nat.reduceLT, Nat.reduceSub, Int.ofNat_lt, Int.natCast_nonneg]
    refine ⟨by simp only [ByteArray.size_append, bsz, List.size_toArray, List.length_cons, List.length_nil]; omega, by simp only [ByteArray.size_append, bsz, List.size_toArray, List.length_cons, List.length_nil]; omega, i + 1, by omega, by omega, ?_⟩
    rw [wrap_i64 (by omega) (by omega)]
    exact Ent.to [7] (by simp only [go_sem, ↓reduceIte, Nat.reduceEqDiff, Nat.reduceBEq, Nat.reduceBneDiff]; rfl) rfl (by simp) (by rfl) (by simp only [subEnv, go_sem, ↓reduceIte, Nat.reduceEqDiff, Nat.reduceBEq, keep, memN, Bool.or_false, Bool.false_or, Bool.or_self] <;> simp [ht])
   | fail h =>
    simp only at h
    subst h
    rw [show spT (4, v, (.mk ck cn cnn cks), t, u) = ⟨#[102, 97, 105, 108]⟩ by simp [spT]] at ht
    simp +contextual -implicitDefEqProofs only [hi, e1, eSp, Ex.k_mk, Ex.n_mk, Ex.nn_mk, Ex.ks_mk, eT, eI, D.put, D.cells, Int.cast_ofNat_Int, Int.reduceLT, Int.reduceLE, Int.le_refl, Int.reduceBEq, Int.reduceEq, beq_self_eq_true, Int.reduceToNat, D.size, D.sizeL, sub_agt, sub_agf, sub_sc, sub_ls, isAg_ag, isAg_sc, isAg_ls, List.getD_cons_zero, List.getD_cons_succ, List.drop_zero, List.take_succ_cons, List.take_zero, List.drop_succ_cons, modeOf, noPtrs, List.length_map, go_sem, eB, ↓reduceIte, Nat.reduceEqDiff, Nat.reduceAdd, Nat.reduceLeDiff, Nat.reduceMul, Nat.reduceBEq, Nat.reduceBneDiff, Nat.reduceLT, Nat.reduceSub, Int.ofNat_lt, Int.natCast_nonneg]
    refine ⟨by simp only [ByteArray.size_append, bsz, List.size_toArray, List.length_cons, List.length_nil]; omega, by simp only [ByteArray.size_append, bsz, List.size_toArray, List.length_cons, List.length_nil]; omega, i + 1, by omega, by omega, ?_⟩
    rw [wrap_i64 (by omega) (by omega)]
    exact Ent.to [7] (by simp only [go_sem, ↓reduceIte, Nat.reduceEqDiff, Nat.reduceBEq, Nat.reduceBneDiff]; rfl) rfl (by simp) (by rfl) (by simp only [subEnv, go_sem, ↓reduceIte, Nat.reduceEqDiff, Nat.reduceBEq, keep, memN, Bool.or_false, Bool.false_or, Bool.or_self] <;> simp [ht])
  ·obtain rfl : i = l.length := by omega
   simp +contextual -implicitDefEqProofs only [hi, List.take_length, eT, D.size, D.sizeL, sub_agt, sub_agf, sub_sc, sub_ls, isAg_ag, isAg_sc, isAg_ls, D.at, List.getD_cons_zero, List.getD_cons_succ, List.drop_zero, List.take_succ_cons, List.take_zero, List.drop_succ_cons, modeOf, noPtrs, List.length_map, go_sem, eI, eB, ↓reduceIte, Nat.reduceEqDiff, Nat.reduceAdd, Nat.reduceLeDiff, Nat.reduceMul, Nat.reduceBEq, Nat.reduceBneDiff, Nat.reduceLT, Nat.reduceSub, Int.ofNat_lt, Int.natCast_nonneg]

def k_imFlowText (f1 f2 f3 f4 f5 : Nat) : RC := (.seq (.reg false [⟨none, .box 2 2 (.t 0)⟩, ⟨none, .box 3 2 (.t 1)⟩, ⟨none, .mv 4 (.c (.sc (.string ⟨#[]⟩)))⟩]) ((.seq ((.seq (.reg false [⟨none, .ld 8 true 2 (.t 2)⟩, ⟨none, .ld 9 true 2 (.t 3)⟩, ⟨none, .call (some 10) f1 [(.t 8), (.t 9)]⟩, ⟨none, .un 11 .not (.t 10)⟩]) (.cond (.t 11) ((.seq (.reg false [⟨none, .mv 4 (.c (.sc (.string ⟨#[]⟩)))⟩]) (.ret))) (.skip)))) ((.seq (.reg false [⟨none, .bld 12 (.ag [(.sc (.pointer none)), (.ls (some true) 1 [])]) []⟩, ⟨none, .zsb 5 117 5⟩, ⟨none, .st 2 (.t 5) (.t 12)⟩]) ((.seq (.reg false [⟨none, .fa 13 0 (.t 3)⟩, ⟨none, .ld 14 false 1 (.t 13)⟩, ⟨none, .call (some 15) f2 [(.t 14)]⟩, ⟨none, .bin 16 .add (.c (.sc (.string ⟨#[115, 116, 97, 114, 116, 32]⟩))) (.t 15)⟩, ⟨none, .bin 17 .add (.t 16) (.c (.sc (.string ⟨#[10]⟩)))⟩, ⟨none, .bwr (some 18) f4 (.t 5) [(.t 17)]⟩]) ((.seq ((.seq (.reg false [⟨none, .fa 19 1 (.t 3)⟩, ⟨none, .ld 20 false 1 (.t 19)⟩, ⟨none, .len 21 (.t 20)⟩, ⟨none, .mv 22 (.c (.sc (.int .i64 0)))⟩]) (.blk 0 (.loop ((.seq (.reg false [⟨none, .bin 23 .lss (.t 22) (.t 21)⟩]) ((.seq (.cond (.t 23) (.skip) (.exit 0)) ((.seq (.blk 1 ((.seq (.reg false [⟨none, .ia 24 7 (.t 20) (.t 22)⟩, ⟨none, .ld 25 true 7 (.t 24)⟩, ⟨none, .zer 7 7 (.ag [(.sc (.int .i64 0)), (.sc (.int .i64 0)), (.sc (.int .i64 0)), (.sc (.int .i64 0)), (.ls (some true) 3 []), (.sc (.int .i64 0)), (.sc (.int .i64 0))])⟩, ⟨none, .st 7 (.t 7) (.t 25)⟩]) ((.seq (.reg false [⟨none, .fa 26 0 (.t 7)⟩, ⟨none, .ld 27 false 1 (.t 26)⟩]) (.blk 2 ((.seq (.reg false [⟨none, .bin 30 .eql (.t 27) (.c (.sc (.int .i64 1)))⟩, ⟨none, .mv 29 (.t 30)⟩]) (.cond (.t 29) (.reg true [⟨none, .fa 31 1 (.t 7)⟩, ⟨none, .ld 32 false 1 (.t 31)⟩, ⟨none, .call (some 33) f2 [(.t 32)]⟩, ⟨none, .bin 34 .add (.c (.sc (.string ⟨#[97]⟩))) (.t 33)⟩, ⟨none, .bin 35 .add (.t 34) (.c (.sc (.string ⟨#[32]⟩)))⟩, ⟨none, .fa 36 5 (.t 7)⟩, ⟨none, .ld 37 false 1 (.t 36)⟩, ⟨none, .call (some 38) f2 [(.t 37)]⟩, ⟨none, .bin 39 .add (.t 35) (.t 38)⟩, ⟨none, .bin 40 .add (.t 39) (.c (.sc (.string ⟨#[10]⟩)))⟩, ⟨none, .bwr (some 41) f4 (.t 5) [(.t 40)]⟩]) ((.seq (.reg false [⟨none, .bin 43 .eql (.t 27) (.c (.sc (.int .i64 2)))⟩, ⟨none, .mv 42 (.t 43)⟩]) (.cond (.t 42) (.reg true [⟨none, .fa 44 2 (.t 7)⟩, ⟨none, .ld 45 true 3 (.t 44)⟩, ⟨none, .call (some 46) f3 [(.t 45)]⟩, ⟨none, .bin 47 .add (.c (.sc (.string ⟨#[116, 101, 115, 116, 32]⟩))) (.t 46)⟩, ⟨none, .bin 48 .add (.t 47) (.c (.sc (.string ⟨#[32]⟩)))⟩, ⟨none, .fa 49 5 (.t 7)⟩, ⟨none, .ld 50 false 1 (.t 49)⟩, ⟨none, .call (some 51) f2 [(.t 50)]⟩, ⟨none, .bin 52 .add (.t 48) (.t 51)⟩, ⟨none, .bin 53 .add (.t 52) (.c (.sc (.string ⟨#[32]⟩)))⟩, ⟨none, .fa 54 6 (.t 7)⟩, ⟨none, .ld 55 false 1 (.t 54)⟩, ⟨none, .call (some 56) f2 [(.t 55)]⟩, ⟨none, .bin 57 .add (.t 53) (.t 56)⟩, ⟨none, .bin 58 .add (.t 57) (.c (.sc (.string ⟨#[10]⟩)))⟩, ⟨none, .bwr (some 59) f4 (.t 5) [(.t 58)]⟩]) ((.seq (.reg false [⟨none, .bin 61 .eql (.t 27) (.c (.sc (.int .i64 3)))⟩, ⟨none, .mv 60 (.t 61)⟩]) (.cond (.t 60) (.reg false [⟨none, .bwr (some 62) f4 (.t 5) [(.c (.sc (.string ⟨#[104, 97, 108, 116, 10]⟩)))]⟩]) (.reg false [⟨none, .bwr (some 28) f4 (.t 5) [(.c (.sc (.string ⟨#[102, 97, 105, 108, 10]⟩)))]⟩])))))))))))))))) (.reg false [⟨none, .bin 63 .add (.t 22) (.c (.sc (.int .i64 1)))⟩, ⟨none, .mv 22 (.t 63)⟩]))))))))))) ((.seq (.reg false [⟨none, .bst 64 f5 (.t 5)⟩, ⟨none, .mv 4 (.t 64)⟩]) (.ret))))))))))))
def K_imFlowText (P : Program) (fno : Nat) : Prop := ∀ (g0 : Int × Int) (f : Fl), AF P fno [eG g0, eFl f] (.own (eT (txtFl g0 f)))
theorem a_imFlowText {P : Program} (hm : P.follows .mixedOrders = true) {g f1 f2 f3 f4 f5 : Nat} (hr : resF P g = some (65, k_imFlowText f1 f2 f3 f4 f5, [.t 4])) (hc1 : K_imValidFlow P f1) (hc2 : K_imDecimal P f2) (hc3 : K_textOf P f3) (hc4 : K_wrS P f4) (hc5 : K_bdS P f5) : K_imFlowText P g := by
 intro g0 f
 refine af_of_res hr hm rfl fun hb => ?_
 cases ho : okFl g0 f
 ·have et : txtFl g0 f = ⟨#[]⟩ := by simp only [txtFl, ho]; rfl
  rw [et]
  obtain ⟨a, nn, l⟩ := f
  simp +contextual -implicitDefEqProofs only [k_imFlowText, eFl, eS, eI, eG, D.size, D.sizeL, sub_agt, sub_agf, sub_sc, sub_ls, isAg_ag, isAg_sc, isAg_ls, D.at, List.getD_cons_zero, List.getD_cons_succ, List.drop_zero, List.take_succ_cons, List.take_zero, List.drop_succ_cons, modeOf, noPtrs, List.length_map, go_sem, eB, ↓reduceIte, Nat.reduceEqDiff, Nat.reduceAdd, Nat.reduceLeDiff, Nat.reduceMul, Nat.reduceBEq, Nat.reduceBneDiff, Nat.reduceLT, Nat.reduceSub, Int.ofNat_lt, Int.natCast_nonneg]
  refine callQ_self (ds := [eG g0, eFl (a, nn, l)]) (by rfl) (hc1 g0 _) ?_
  rw [ho]
  simp +contextual -implicitDefEqProofs only [eT, eB, bne, Bool.not_true, Bool.not_false, Bool.true_and, Bool.false_and, Bool.and_true, Bool.and_false, Bool.true_or, Bool.false_or, Bool.or_true, Bool.or_false, D.size, D.sizeL, sub_agt, sub_agf, sub_sc, sub_ls, isAg_ag, isAg_sc, isAg_ls, D.at, List.getD_cons_zero, List.getD_cons_succ, List.drop_zero, List.take_succ_cons, List.take_zero, List.drop_succ_cons, modeOf, noPtrs, List.length_map, go_sem, eI, ↓reduceIte, Nat.reduceEqDiff, Nat.reduceAdd, Nat.reduceLeDiff, Nat.reduceMul, Nat.reduceBEq, Nat.reduceBneDiff, Nat.reduceLT, Nat.reduceSub, Int.ofNat_lt, Int.natCast_nonneg]
 ·obtain ⟨hg, n, nn, l, rfl, hn, hl, hx⟩ := okFl_split ho
  have et : txtFl g0 ((n : Int), nn, l) = spotsT (startT n) l := by simp only [txtFl, ho, flowT, if_true, Int.toNat_natCast]
  rw [et]
  simp +contextual -implicitDefEqProofs only [k_imFlowText, eFl, eS, eI, eG, D.size, D.sizeL, sub_agt, sub_agf, sub_sc, sub_ls, isAg_ag, isAg_sc, isAg_ls, D.at, List.getD_cons_zero, List.getD_cons_succ, List.drop_zero, List.take_succ_cons, List.take_zero, List.drop_succ_cons, modeOf, noPtrs, List.length_map, go_sem, eB, ↓reduceIte, Nat.reduceEqDiff, Nat.reduceAdd, Nat.reduceLeDiff, Nat.reduceMul, Nat.reduceBEq, Nat.reduceBneDiff, Nat.reduceLT, Nat.reduceSub, Int.ofNat_lt, Int.natCast_nonneg]
  refine callQ_self (ds := [eG g0, eFl ((n : Int), nn, l)]) (by rfl) (hc1 g0 _) ?_
  rw [ho]
  simp +contextual -implicitDefEqProofs only [eT, eB, eI, bne, Bool.not_true, Bool.not_false, Bool.true_and, Bool.false_and, Bool.and_true, Bool.and_false, Bool.true_or, Bool.false_or, Bool.or_true, Bool.or_false, D.size, D.sizeL, sub_agt, sub_agf, sub_sc, sub_ls, isAg_ag, isAg_sc, isAg_ls, D.at, List.getD_cons_zero, List.getD_cons_succ, List.drop_zero, List.take_succ_cons, List.take_zero, List.drop_succ_cons, modeOf, noPtrs, List.length_map, go_sem, ↓reduceIte, Nat.reduceEqDiff, Nat.reduceAdd, Nat.reduceLeDiff, Nat.reduceMul, Nat.reduceBEq, Nat.reduceBneDiff, Nat.reduceLT, Nat.reduceSub, Int.ofNat_lt, Int.natCast_nonneg]
  refine callQ_self (ds := [eI n]) (by rfl) (hc2 n hn) ?_
  have hd := decB_size (n := n)
  simp +contextual -implicitDefEqProofs only [eT, eB, eI, bne, Bool.not_true, Bool.not_false, Bool.true_and, Bool.false_and, Bool.and_true, Bool.and_false, Bool.true_or, Bool.false_or, Bool.or_true, Bool.or_false, D.size, D.sizeL, sub_agt, sub_agf, sub_sc, sub_ls, isAg_ag, isAg_sc, isAg_ls, D.at, List.getD_cons_zero, List.getD_cons_succ, List.drop_zero, List.take_succ_cons, List.take_zero, List.drop_succ_cons, modeOf, noPtrs, List.length_map, go_sem, ↓reduceIte, Nat.reduceEqDiff, Nat.reduceAdd, Nat.reduceLeDiff, Nat.reduceMul, Nat.reduceBEq, Nat.reduceBneDiff, Nat.reduceLT, Nat.reduceSub, Int.ofNat_lt, Int.natCast_nonneg]
  refine ⟨by simp only [ByteArray.size_append, bsz, List.size_toArray, List.length_cons, List.length_nil]; omega, by simp only [ByteArray.size_append, bsz, List.size_toArray, List.length_cons, List.length_nil]; omega, ?_⟩
  refine bwr_self (T := 117) (E := 5) (t := startT n) [.sc (.string (startT n))] (by rfl) (by rfl) (by rfl) (hc4 (startT n) (by have := startT_size (n := n); omega)) (by have := startT_size (n := n); simp only [ByteArray.size_append, bsz, List.size_toArray, List.length_cons, List.length_nil]; omega) ?_
  simp +contextual -implicitDefEqProofs only [eT, eB, eI, e_app, bne, Bool.not_true, Bool.not_false, Bool.true_and, Bool.false_and, Bool.and_true, Bool.and_false, Bool.true_or, Bool.false_or, Bool.or_true, Bool.or_false, D.size, D.sizeL, sub_agt, sub_agf, sub_sc, sub_ls, isAg_ag, isAg_sc, isAg_ls, D.at, List.getD_cons_zero, List.getD_cons_succ, List.drop_zero, List.take_succ_cons, List.take_zero, List.drop_succ_cons, modeOf, noPtrs, List.length_map, go_sem, ↓reduceIte, Nat.reduceEqDiff, Nat.reduceAdd, Nat.reduceLeDiff, Nat.reduceMul, Nat.reduceBEq, Nat.reduceBneDiff, Nat.reduceLT, Nat.reduceSub, Int.ofNat_lt, Int.natCast_nonneg]
  refine vc_onU (α := Nat) [2, 7, 22, 23, 24, 25, 26, 27, 29, 30, 31, 32, 33, 34, 35, 36, 37, 38, 39, 40, 42, 43, 44, 45, 46, 47, 48, 49, 50, 51, 52, 53, 54, 55, 56, 57, 58, 60, 61, 63] (fun i => [(22, .im none (.sc (.int .i64 i)))]) (fun i => [(5, .sb 117 5 (spotsT (startT n) (l.take i))), (3, .ar false (some false) 2 [.ag [.sc (.int .i64 (n : Int)), .ls nn 7 (l.map eSp)]])]) (fun i => i ≤ l.length) (fun i => l.length - i) 0 (Ent.to [2] (by simp only [go_sem, ↓reduceIte, Nat.reduceEqDiff, Nat.reduceBEq, Nat.reduceBneDiff]; rfl) rfl (by simp [spotsT_nil]) (by rfl) (by simp only [subEnv, go_sem, ↓reduceIte, Nat.reduceEqDiff, Nat.reduceBEq, keep, memN, Bool.or_false, Bool.false_or, Bool.or_self] <;> simp)) (Nat.zero_le _) ?_
  intro i hi0
  by_cases hi : i < l.length
  ·have e1 := at_map (f := eSp) hi
   have ht := spotsT_take (s := startT n) hi
   have hs := hx _ (List.getElem_mem hi)
   have hz := spotsT_size hg (s := startT n) (l := l.take i) fun x hx' => hx x (List.mem_of_mem_take hx')
   have hz0 := startT_size (n := n)
   have hz1 := spT_size hg hs
   rw [List.length_take] at hz
   generalize spotsT (startT n) (l.take i) = s at ht hz ⊢
   generalize l[i] = x at ht hs hz1 e1
   obtain ⟨k, v, ⟨ck, cn, cnn, cks⟩, t, u⟩ := x
   cases hs with
   | act h a b ha hb ha2 hb2 =>
    simp only at h ha hb
    subst h ha hb
    have da := decB_size (n := a)
    have db := decB_size (n := b)
    rw [show spT (1, (a : Int), (.mk ck cn cnn cks), (b : Int), u) = ⟨#[97]⟩ ++ decB a ++ ⟨#[32]⟩ ++ decB b by simp [spT]] at ht
    simp +contextual -implicitDefEqProofs only [hi, e1, eSp, Ex.k_mk, Ex.n_mk, Ex.nn_mk, Ex.ks_mk, eT, eI, D.put, D.cells, Int.cast_ofNat_Int, Int.reduceLT, Int.reduceLE, Int.le_refl, Int.reduceBEq, Int.reduceEq, beq_self_eq_true, Int.reduceToNat, D.size, D.sizeL, sub_agt, sub_agf, sub_sc, sub_ls, isAg_ag, isAg_sc, isAg_ls, List.getD_cons_zero, List.getD_cons_succ, List.drop_zero, List.take_succ_cons, List.take_zero, List.drop_succ_cons, modeOf, noPtrs, List.length_map, go_sem, eB, ↓reduceIte, Nat.reduceEqDiff, Nat.reduceAdd, Nat.reduceLeDiff, Nat.reduceMul, Nat.reduceBEq, Nat.reduceBneDiff, Nat.reduceLT, Nat.reduceSub, Int.ofNat_lt, Int.natCast_nonneg]
    refine callQ_self (ds := [eI a]) (by rfl) (hc2 a ha2) ?_
    simp +contextual -implicitDefEqProofs only [hi, e1, eSp, Ex.k_mk, Ex.n_mk, Ex.nn_mk, Ex.ks_mk, eT, eI, D.put, D.cells, Int.cast_ofNat_Int, Int.reduceLT, Int.reduceLE, Int.le_refl, Int.reduceBEq, Int.reduceEq, beq_self_eq_true, Int.reduceToNat, D.size, D.sizeL, sub_agt, sub_agf, sub_sc, sub_ls, isAg_ag, isAg_sc, isAg_ls, List.getD_cons_zero, List.getD_cons_succ, List.drop_zero, List.take_succ_cons, List.take_zero, List.drop_succ_cons, modeOf, noPtrs, List.length_map, go_sem, eB, ↓reduceIte, Nat.reduceEqDiff, Nat.reduceAdd, Nat.reduceLeDiff, Nat.reduceMul, Nat.reduceBEq, Nat.reduceBneDiff, Nat.reduceLT, Nat.reduceSub, Int.ofNat_lt, Int.natCast_nonneg]
    refine ⟨by simp only [ByteArray.size_append, bsz, List.size_toArray, List.length_cons, List.length_nil]; omega, by simp only [ByteArray.size_append, bsz, List.size_toArray, List.length_cons, List.length_nil]; omega, ?_⟩
    refine callQ_self (ds := [eI b]) (by rfl) (hc2 b hb2) ?_
    simp +contextual -implicitDefEqProofs only [hi, e1, eSp, Ex.k_mk, Ex.n_mk, Ex.nn_mk, Ex.ks_mk, eT, eI, D.put, D.cells, Int.cast_ofNat_Int, Int.reduceLT, Int.reduceLE, Int.le_refl, Int.reduceBEq, Int.reduceEq, beq_self_eq_true, Int.reduceToNat, D.size, D.sizeL, sub_agt, sub_agf, sub_sc, sub_ls, isAg_ag, isAg_sc, isAg_ls, List.getD_cons_zero, List.getD_cons_succ, List.drop_zero, List.take_succ_cons, List.take_zero, List.drop_succ_cons, modeOf, noPtrs, List.length_map, go_sem, eB, ↓reduceIte, Nat.reduceEqDiff, Nat.reduceAdd, Nat.reduceLeDiff, Nat.reduceMul, Nat.reduceBEq, Nat.reduceBneDiff, Nat.reduceLT, Nat.reduceSub, Int.ofNat_lt, Int.natCast_nonneg]
    refine ⟨by simp only [ByteArray.size_append, bsz, List.size_toArray, List.length_cons, List.length_nil]; omega, by simp only [ByteArray.size_append, bsz, List.size_toArray, List.length_cons, List.length_nil]; omega, ?_⟩
    generalize hT : (⟨#[97]⟩ ++ decB a ++ ⟨#[32]⟩ ++ decB b ++ ⟨#[10]⟩ : ByteArray) = tt
    have hts : tt.size ≤ 5000 := by
     rw [← hT]
     (try simp only [ByteArray.size_append, bsz, List.size_toArray, List.length_cons, List.length_nil]) <;> omega
    refine bwr_self (T := 117) (E := 5) (t := tt) [.sc (.string tt)] (by rfl) (by rfl) (by rfl) (hc4 tt (by omega)) (by omega) ?_
    simp +contextual -implicitDefEqProofs only [hi, e1, eSp, Ex.k_mk, Ex.n_mk, Ex.nn_mk, Ex.ks_mk, eT, eI, D.put, D.cells, Int.cast_ofNat_Int, Int.reduceLT, Int.reduceLE, Int.le_refl, Int.reduceBEq, Int.reduceEq, beq_self_eq_true, Int.reduceToNat, D.size, D.sizeL, sub_agt, sub_agf, sub_sc, sub_ls, isAg_ag, isAg_sc, isAg_ls, List.getD_cons_zero, List.getD_cons_succ, List.drop_zero, List.take_succ_cons, List.take_zero, List.drop_succ_cons, modeOf, noPtrs, List.length_map, go_sem, eB, ↓reduceIte, Nat.reduceEqDiff, Nat.reduceAdd, Nat.reduceLeDiff, Nat.reduceMul, Nat.reduceBEq, Nat.reduceBneDiff, Nat.reduceLT, Nat.reduceSub, Int.ofNat_lt, Int.natCast_nonneg]
    subst hT
    refine ⟨i + 1, by omega, by omega, ?_⟩
    rw [wrap_i64 (by omega) (by omega)]
    exact Ent.to [7] (by simp only [go_sem, ↓reduceIte, Nat.reduceEqDiff, Nat.reduceBEq, Nat.reduceBneDiff]; rfl) rfl (by simp [ht, ByteArray.append_assoc, halt_nl, fail_nl]) (by rfl) (by simp only [subEnv, go_sem, ↓reduceIte, Nat.reduceEqDiff, Nat.reduceBEq, keep, memN, Bool.or_false, Bool.false_or, Bool.or_self] <;> simp)
   | test h a b ha hb ha2 hb2 hc =>
    simp only at h ha hb
    subst h ha hb
    have da := decB_size (n := a)
    have db := decB_size (n := b)
    have hzc : (textE (.mk ck cn cnn cks)).size ≤ 1000 := okE_size hg hc
    rw [show spT (2, v, (.mk ck cn cnn cks), (a : Int), (b : Int)) = ⟨#[116, 101, 115, 116, 32]⟩ ++ textE (.mk ck cn cnn cks) ++ ⟨#[32]⟩ ++ decB a ++ ⟨#[32]⟩ ++ decB b by simp [spT]] at ht
    simp +contextual -implicitDefEqProofs only [hi, e1, eSp, Ex.k_mk, Ex.n_mk, Ex.nn_mk, Ex.ks_mk, eT, eI, D.put, D.cells, Int.cast_ofNat_Int, Int.reduceLT, Int.reduceLE, Int.le_refl, Int.reduceBEq, Int.reduceEq, beq_self_eq_true, Int.reduceToNat, D.size, D.sizeL, sub_agt, sub_agf, sub_sc, sub_ls, isAg_ag, isAg_sc, isAg_ls, List.getD_cons_zero, List.getD_cons_succ, List.drop_zero, List.take_succ_cons, List.take_zero, List.drop_succ_cons, modeOf, noPtrs, List.length_map, go_sem, eB, ↓reduceIte, Nat.reduceEqDiff, Nat.reduceAdd, Nat.reduceLeDiff, Nat.reduceMul, Nat.reduceBEq, Nat.reduceBneDiff, Nat.reduceLT, Nat.reduceSub, Int.ofNat_lt, Int.natCast_nonneg]
    refine callQ_self (ds := [eE (.mk ck cn cnn cks)]) (by rw [eE_mk]; rfl) (hc3 g0 hg (.mk ck cn cnn cks) (okE_tree hc) (by omega)) ?_
    simp +contextual -implicitDefEqProofs only [hi, e1, eSp, Ex.k_mk, Ex.n_mk, Ex.nn_mk, Ex.ks_mk, eT, eI, D.put, D.cells, Int.cast_ofNat_Int, Int.reduceLT, Int.reduceLE, Int.le_refl, Int.reduceBEq, Int.reduceEq, beq_self_eq_true, Int.reduceToNat, D.size, D.sizeL, sub_agt, sub_agf, sub_sc, sub_ls, isAg_ag, isAg_sc, isAg_ls, List.getD_cons_zero, List.getD_cons_succ, List.drop_zero, List.take_succ_cons, List.take_zero, List.drop_succ_cons, modeOf, noPtrs, List.length_map, go_sem, eB, ↓reduceIte, Nat.reduceEqDiff, Nat.reduceAdd, Nat.reduceLeDiff, Nat.reduceMul, Nat.reduceBEq, Nat.reduceBneDiff, Nat.reduceLT, Nat.reduceSub, Int.ofNat_lt, Int.natCast_nonneg]
    refine ⟨by simp only [ByteArray.size_append, bsz, List.size_toArray, List.length_cons, List.length_nil]; omega, by simp only [ByteArray.size_append, bsz, List.size_toArray, List.length_cons, List.length_nil]; omega, ?_⟩
    refine callQ_self (ds := [eI a]) (by rfl) (hc2 a ha2) ?_
    simp +contextual -implicitDefEqProofs only [hi, e1, eSp, Ex.k_mk, Ex.n_mk, Ex.nn_mk, Ex.ks_mk, eT, eI, D.put, D.cells, Int.cast_ofNat_Int, Int.reduceLT, Int.reduceLE, Int.le_refl, Int.reduceBEq, Int.reduceEq, beq_self_eq_true, Int.reduceToNat, D.size, D.sizeL, sub_agt, sub_agf, sub_sc, sub_ls, isAg_ag, isAg_sc, isAg_ls, List.getD_cons_zero, List.getD_cons_succ, List.drop_zero, List.take_succ_cons, List.take_zero, List.drop_succ_cons, modeOf, noPtrs, List.length_map, go_sem, eB, ↓reduceIte, Nat.reduceEqDiff, Nat.reduceAdd, Nat.reduceLeDiff, Nat.reduceMul, Nat.reduceBEq, Nat.reduceBneDiff, Nat.reduceLT, Nat.reduceSub, Int.ofNat_lt, Int.natCast_nonneg]
    refine ⟨by simp only [ByteArray.size_append, bsz, List.size_toArray, List.length_cons, List.length_nil]; omega, by simp only [ByteArray.size_append, bsz, List.size_toArray, List.length_cons, List.length_nil]; omega, ?_⟩
    refine callQ_self (ds := [eI b]) (by rfl) (hc2 b hb2) ?_
    simp +contextual -implicitDefEqProofs only [hi, e1, eSp, Ex.k_mk, Ex.n_mk, Ex.nn_mk, Ex.ks_mk, eT, eI, D.put, D.cells, Int.cast_ofNat_Int, Int.reduceLT, Int.reduceLE, Int.le_refl, Int.reduceBEq, Int.reduceEq, beq_self_eq_true, Int.reduceToNat, D.size, D.sizeL, sub_agt, sub_agf, sub_sc, sub_ls, isAg_ag, isAg_sc, isAg_ls, List.getD_cons_zero, List.getD_cons_succ, List.drop_zero, List.take_succ_cons, List.take_zero, List.drop_succ_cons, modeOf, noPtrs, List.length_map, go_sem, eB, ↓reduceIte, Nat.reduceEqDiff, Nat.reduceAdd, Nat.reduceLeDiff, Nat.reduceMul, Nat.reduceBEq, Nat.reduceBneDiff, Nat.reduceLT, Nat.reduceSub, Int.ofNat_lt, Int.natCast_nonneg]
    refine ⟨by simp only [ByteArray.size_append, bsz, List.size_toArray, List.length_cons, List.length_nil]; omega, by simp only [ByteArray.size_append, bsz, List.size_toArray, List.length_cons, List.length_nil]; omega, ?_⟩
    generalize hT : (⟨#[116, 101, 115, 116, 32]⟩ ++ textE (.mk ck cn cnn cks) ++ ⟨#[32]⟩ ++ decB a ++ ⟨#[32]⟩ ++ decB b ++ ⟨#[10]⟩ : ByteArray) = tt
    have hts : tt.size ≤ 5000 := by
     rw [← hT]
     (try simp only [ByteArray.size_append, bsz, List.size_toArray, List.length_cons, List.length_nil]) <;> omega
    refine bwr_self (T := 117) (E := 5) (t := tt) [.sc (.string tt)] (by rfl) (by rfl) (by rfl) (hc4 tt (by omega)) (by omega) ?_
    simp +contextual -implicitDefEqProofs only [hi, e1, eSp, Ex.k_mk, Ex.n_mk, Ex.nn_mk, Ex.ks_mk, eT, eI, D.put, D.cells, Int.cast_ofNat_Int, Int.reduceLT, Int.reduceLE, Int.le_refl, Int.reduceBEq, Int.reduceEq, beq_self_eq_true, Int.reduceToNat, D.size, D.sizeL, sub_agt, sub_agf, sub_sc, sub_ls, isAg_ag, isAg_sc, isAg_ls, List.getD_cons_zero, List.getD_cons_succ, List.drop_zero, List.take_succ_cons, List.take_zero, List.drop_succ_cons, modeOf, noPtrs, List.length_map, go_sem, eB, ↓reduceIte, Nat.reduceEqDiff, Nat.reduceAdd, Nat.reduceLeDiff, Nat.reduceMul, Nat.reduceBEq, Nat.reduceBneDiff, Nat.reduceLT, Nat.reduceSub, Int.ofNat_lt, Int.natCast_nonneg]
    subst hT
    refine ⟨i + 1, by omega, by omega, ?_⟩
    rw [wrap_i64 (by omega) (by omega)]
    exact Ent.to [7] (by simp only [go_sem, ↓reduceIte, Nat.reduceEqDiff, Nat.reduceBEq, Nat.reduceBneDiff]; rfl) rfl (by simp [ht, ByteArray.append_assoc, halt_nl, fail_nl]) (by rfl) (by simp only [subEnv, go_sem, ↓reduceIte, Nat.reduceEqDiff, Nat.reduceBEq, keep, memN, Bool.or_false, Bool.false_or, Bool.or_self] <;> simp)
   | halt h =>
    simp only at h
    subst h
    rw [show spT (3, v, (.mk ck cn cnn cks), t, u) = ⟨#[104, 97, 108, 116]⟩ by simp [spT]] at ht
    simp +contextual -implicitDefEqProofs only [hi, e1, eSp, Ex.k_mk, Ex.n_mk, Ex.nn_mk, Ex.ks_mk, eT, eI, D.put, D.cells, Int.cast_ofNat_Int, Int.reduceLT, Int.reduceLE, Int.le_refl, Int.reduceBEq, Int.reduceEq, beq_self_eq_true, Int.reduceToNat, D.size, D.sizeL, sub_agt, sub_agf, sub_sc, sub_ls, isAg_ag, isAg_sc, isAg_ls, List.getD_cons_zero, List.getD_cons_succ, List.drop_zero, List.take_succ_cons, List.take_zero, List.drop_succ_cons, modeOf, noPtrs, List.length_map, go_sem, eB, ↓reduceIte, Nat.reduceEqDiff, Nat.reduceAdd, Nat.reduceLeDiff, Nat.reduceMul, Nat.reduceBEq, Nat.reduceBneDiff, Nat.reduceLT, Nat.reduceSub, Int.ofNat_lt, Int.natCast_nonneg]
    generalize hT : (⟨#[104, 97, 108, 116, 10]⟩ : ByteArray) = tt
    have hts : tt.size ≤ 5000 := by
     rw [← hT]
     (try simp only [ByteArray.size_append, bsz, List.size_toArray, List.length_cons, List.length_nil]) <;> omega
    refine bwr_self (T := 117) (E := 5) (t := tt) [.sc (.string tt)] (by rfl) (by rfl) (by rfl) (hc4 tt (by omega)) (by omega) ?_
    simp +contextual -implicitDefEqProofs only [hi, e1, eSp, Ex.k_mk, Ex.n_mk, Ex.nn_mk, Ex.ks_mk, eT, eI, D.put, D.cells, Int.cast_ofNat_Int, Int.reduceLT, Int.reduceLE, Int.le_refl, Int.reduceBEq, Int.reduceEq, beq_self_eq_true, Int.reduceToNat, D.size, D.sizeL, sub_agt, sub_agf, sub_sc, sub_ls, isAg_ag, isAg_sc, isAg_ls, List.getD_cons_zero, List.getD_cons_succ, List.drop_zero, List.take_succ_cons, List.take_zero, List.drop_succ_cons, modeOf, noPtrs, List.length_map, go_sem, eB, ↓reduceIte, Nat.reduceEqDiff, Nat.reduceAdd, Nat.reduceLeDiff, Nat.reduceMul, Nat.reduceBEq, Nat.reduceBneDiff, Nat.reduceLT, Nat.reduceSub, Int.ofNat_lt, Int.natCast_nonneg]
    subst hT
    refine ⟨i + 1, by omega, by omega, ?_⟩
    rw [wrap_i64 (by omega) (by omega)]
    exact Ent.to [7] (by simp only [go_sem, ↓reduceIte, Nat.reduceEqDiff, Nat.reduceBEq, Nat.reduceBneDiff]; rfl) rfl (by simp [ht, ByteArray.append_assoc, halt_nl, fail_nl]) (by rfl) (by simp only [subEnv, go_sem, ↓reduceIte, Nat.reduceEqDiff, Nat.reduceBEq, keep, memN, Bool.or_false, Bool.false_or, Bool.or_self] <;> simp)
   | fail h =>
    simp only at h
    subst h
    rw [show spT (4, v, (.mk ck cn cnn cks), t, u) = ⟨#[102, 97, 105, 108]⟩ by simp [spT]] at ht
    simp +contextual -implicitDefEqProofs only [hi, e1, eSp, Ex.k_mk, Ex.n_mk, Ex.nn_mk, Ex.ks_mk, eT, eI, D.put, D.cells, Int.cast_ofNat_Int, Int.reduceLT, Int.reduceLE, Int.le_refl, Int.reduceBEq, Int.reduceEq, beq_self_eq_true, Int.reduceToNat, D.size, D.sizeL, sub_agt, sub_agf, sub_sc, sub_ls, isAg_ag, isAg_sc, isAg_ls, List.getD_cons_zero, List.getD_cons_succ, List.drop_zero, List.take_succ_cons, List.take_zero, List.drop_succ_cons, modeOf, noPtrs, List.length_map, go_sem, eB, ↓reduceIte, Nat.reduceEqDiff, Nat.reduceAdd, Nat.reduceLeDiff, Nat.reduceMul, Nat.reduceBEq, Nat.reduceBneDiff, Nat.reduceLT, Nat.reduceSub, Int.ofNat_lt, Int.natCast_nonneg]
    generalize hT : (⟨#[102, 97, 105, 108, 10]⟩ : ByteArray) = tt
    have hts : tt.size ≤ 5000 := by
     rw [← hT]
     (try simp only [ByteArray.size_append, bsz, List.size_toArray, List.length_cons, List.length_nil]) <;> omega
    refine bwr_self (T := 117) (E := 5) (t := tt) [.sc (.string tt)] (by rfl) (by rfl) (by rfl) (hc4 tt (by omega)) (by omega) ?_
    simp +contextual -implicitDefEqProofs only [hi, e1, eSp, Ex.k_mk, Ex.n_mk, Ex.nn_mk, Ex.ks_mk, eT, eI, D.put, D.cells, Int.cast_ofNat_Int, Int.reduceLT, Int.reduceLE, Int.le_refl, Int.reduceBEq, Int.reduceEq, beq_self_eq_true, Int.reduceToNat, D.size, D.sizeL, sub_agt, sub_agf, sub_sc, sub_ls, isAg_ag, isAg_sc, isAg_ls, List.getD_cons_zero, List.getD_cons_succ, List.drop_zero, List.take_succ_cons, List.take_zero, List.drop_succ_cons, modeOf, noPtrs, List.length_map, go_sem, eB, ↓reduceIte, Nat.reduceEqDiff, Nat.reduceAdd, Nat.reduceLeDiff, Nat.reduceMul, Nat.reduceBEq, Nat.reduceBneDiff, Nat.reduceLT, Nat.reduceSub, Int.ofNat_lt, Int.natCast_nonneg]
    subst hT
    refine ⟨i + 1, by omega, by omega, ?_⟩
    rw [wrap_i64 (by omega) (by omega)]
    exact Ent.to [7] (by simp only [go_sem, ↓reduceIte, Nat.reduceEqDiff, Nat.reduceBEq, Nat.reduceBneDiff]; rfl) rfl (by simp [ht, ByteArray.append_assoc, halt_nl, fail_nl]) (by rfl) (by simp only [subEnv, go_sem, ↓reduceIte, Nat.reduceEqDiff, Nat.reduceBEq, keep, memN, Bool.or_false, Bool.false_or, Bool.or_self] <;> simp)
  ·obtain rfl : i = l.length := by omega
   simp +contextual -implicitDefEqProofs only [hi, List.take_length, eT, D.size, D.sizeL, sub_agt, sub_agf, sub_sc, sub_ls, isAg_ag, isAg_sc, isAg_ls, D.at, List.getD_cons_zero, List.getD_cons_succ, List.drop_zero, List.take_succ_cons, List.take_zero, List.drop_succ_cons, modeOf, noPtrs, List.length_map, go_sem, eI, eB, ↓reduceIte, Nat.reduceEqDiff, Nat.reduceAdd, Nat.reduceLeDiff, Nat.reduceMul, Nat.reduceBEq, Nat.reduceBneDiff, Nat.reduceLT, Nat.reduceSub, Int.ofNat_lt, Int.natCast_nonneg]
   refine bst_self (T := 117) (E := 5) (by rfl) hc5 ?_
   simp +contextual -implicitDefEqProofs only [eT, D.size, D.sizeL, sub_agt, sub_agf, sub_sc, sub_ls, isAg_ag, isAg_sc, isAg_ls, D.at, List.getD_cons_zero, List.getD_cons_succ, List.drop_zero, List.take_succ_cons, List.take_zero, List.drop_succ_cons, modeOf, noPtrs, List.length_map, go_sem, eI, eB, ↓reduceIte, Nat.reduceEqDiff, Nat.reduceAdd, Nat.reduceLeDiff, Nat.reduceMul, Nat.reduceBEq, Nat.reduceBneDiff, Nat.reduceLT, Nat.reduceSub, Int.ofNat_lt, Int.natCast_nonneg]
end Go.Ax
