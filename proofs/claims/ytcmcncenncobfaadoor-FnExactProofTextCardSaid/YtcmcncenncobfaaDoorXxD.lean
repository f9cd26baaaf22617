/- Contracts of functions of the seat, proved over the engine. No condition. -/
import Derived.Test.YtcmcncenncobfaaDoorXxB
import Derived.Test.YtcmcncenncobfaaDoorXxC
set_option linter.unusedSimpArgs false
set_option linter.unusedVariables false
set_option linter.unnecessarySimpa false
set_option linter.unusedSectionVars false
namespace Go.Ax
set_option maxRecDepth 20000
set_option maxHeartbeats 4000000

def joinP (s sep : ByteArray) : List ByteArray → ByteArray
 | [] => s
 | t :: r => r.foldl (fun a x => a ++ sep ++ x) (s ++ t)
theorem joinP_nil {s sep : ByteArray} : joinP s sep [] = s := rfl
theorem joinP_take0 {s sep : ByteArray} {ts : List ByteArray} (h : 0 < ts.length) : joinP s sep (ts.take (0 + 1)) = s ++ ts[0] := by
 cases ts with
 | nil => simp at h
 | cons t r => rfl
theorem joinP_takeZ {s sep : ByteArray} {ts : List ByteArray} {i : Nat} (h : i < ts.length) (h0 : ¬ 0 < i) : joinP s sep (ts.take (i + 1)) = joinP s sep (ts.take i) ++ ts[i] := by
 have : i = 0 := by omega
 subst this
 exact joinP_take0 h
theorem joinP_take {s sep : ByteArray} {ts : List ByteArray} {i : Nat} (h : i < ts.length) (h0 : 0 < i) : joinP s sep (ts.take (i + 1)) = joinP s sep (ts.take i) ++ sep ++ ts[i] := by
 cases ts with
 | nil => simp at h
 | cons t r =>
  cases i with
  | zero => omega
  | succ i =>
   have hi : i < r.length := by simpa using h
   simp only [List.take_succ_cons, joinP, List.getElem_cons_succ]
   exact foldl_take hi
theorem joinP_size {s sep : ByteArray} {ts : List ByteArray} {c : Nat} (h : ∀ t ∈ ts, t.size ≤ c) : (joinP s sep ts).size ≤ s.size + (c + sep.size) * ts.length := by
 cases ts with
 | nil => simp [joinP]
 | cons t r =>
  have h1 := foldl_size (f := fun a x => a ++ sep ++ x) (c := c + sep.size) r (s ++ t) fun s x hx => by
   have := h x (List.mem_cons_of_mem _ hx)
   simp only [ByteArray.size_append]; omega
  have h2 := h t List.mem_cons_self
  have e : joinP s sep (t :: r) = r.foldl (fun a x => a ++ sep ++ x) (s ++ t) := rfl
  rw [e, lK, Nat.mul_succ]
  simp only [ByteArray.size_append] at h1 ⊢
  omega
theorem foldl_pre {sep : ByteArray} : ∀ (r : List ByteArray) (a b : ByteArray), r.foldl (fun a x => a ++ sep ++ x) (a ++ b) = a ++ r.foldl (fun a x => a ++ sep ++ x) b
 | [], a, b => rfl
 | x :: r, a, b => by
  rw [List.foldl_cons, List.foldl_cons, show a ++ b ++ sep ++ x = a ++ (b ++ sep ++ x) by simp only [ByteArray.append_assoc]]
  exact foldl_pre r a _
theorem joinP_pre {s sep : ByteArray} {ts : List ByteArray} : joinP s sep ts = s ++ joinP ⟨#[]⟩ sep ts := by
 cases ts with
 | nil => simp only [joinP]; exact (ByteArray.append_empty (b := s)).symm
 | cons t r => simp only [joinP]; rw [e_app, foldl_pre]
theorem app_e {s : ByteArray} : s ++ (⟨#[]⟩ : ByteArray) = s := ByteArray.append_empty
def listT (l : List Ex) : ByteArray := joinP ⟨#[91]⟩ ⟨#[59, 32]⟩ (l.map textE) ++ ⟨#[93]⟩
theorem listT_size {g : Int × Int} (hg : okG g = true) {l : List Ex} (hl : l.length ≤ 4) (hx : ∀ e ∈ l, okE g e = true) : (listT l).size ≤ 4100 := by
 have := joinP_size (s := ⟨#[91]⟩) (sep := ⟨#[59, 32]⟩) (ts := l.map textE) (c := 1000) fun t ht => by
  obtain ⟨e, he, rfl⟩ := List.mem_map.1 ht
  exact okE_size hg (hx e he)
 simp only [listT, ByteArray.size_append, bsz, List.size_toArray, lK, lZ, lM] at this ⊢
 omega

def k_l04List (f1 : Nat) : RC := (.seq (.r [⟨none, .mv 2 (.c (.sc (.string ⟨#[]⟩)))⟩]) (.seq (.r [⟨none, .mv 3 (.c (.sc (.string ⟨#[91]⟩)))⟩]) (.seq (.seq (.r [.v 4 (.ci 0)]) (.blk 0 (.loop (.seq (.seq (.r [.m 5 4, .m 6 0, .o (.len 7 (.t 6)), .o (.bin 8 .lss (.t 5) (.t 7))]) (.cond (.t 8) .skip (.exit 0))) (.seq (.blk 1 (.seq (.seq (.r [.m 11 4, .o (.bin 12 .gtr (.t 11) (.ci 0))]) (.cond (.t 12) (.r [.m 13 3, ⟨none, .bin 14 .add (.t 13) (.c (.sc (.string ⟨#[59, 32]⟩)))⟩, .m 3 14]) .skip)) (.r [.m 15 3, .m 16 0, .m 17 4, .o (.ia 18 3 (.t 16) (.t 17)), .c 19 f1 [.t 18], .o (.bin 20 .add (.t 15) (.t 19)), .m 3 20]))) (.r [.m 9 4, .o (.bin 10 .add (.t 9) (.ci 1)), .m 4 10])))))) (.seq (.r [.m 21 3, ⟨none, .bin 22 .add (.t 21) (.c (.sc (.string ⟨#[93]⟩)))⟩, .m 2 22]) .ret))))
def K_l04List (P : Program) (fno : Nat) : Prop := ∀ (g0 : Int × Int) (hg : okG g0 = true) (l : SL Ex) (hl : l.2.length ≤ 4) (hx : ∀ e ∈ l.2, okE g0 e = true), AF P fno [eS 3 eE l] (.own (eT (listT l.2)))
theorem a_l04List {P : Program} (hm : P.follows .mixedOrders = true) {g f1 : Nat} (hr : resF P g = some (23, k_l04List f1, [.t 2])) (hc1 : K_l01Text P f1) : K_l04List P g := by
 intro g0 hg l hl hx
 refine af_of_res hr hm rfl fun hb => ?_
 simp +contextual -implicitDefEqProofs only [k_l04List, eS, D.put, D.cells, Int.cast_ofNat_Int, Int.reduceLT, Int.reduceLE, Int.le_refl, Int.reduceBEq, Int.reduceEq, bE, Int.reduceToNat, D.size, D.sizeL, sub_agt, sub_agf, sub_sc, sub_ls, isAg_ag, isAg_sc, isAg_ls, List.getD_cons_zero, List.getD_cons_succ, List.drop_zero, List.take_succ_cons, List.take_zero, List.drop_succ_cons, modeOf, noPtrs, lM, go_sem, eI, eB, ↓reduceIte, Nat.reduceEqDiff, Nat.reduceAdd, Nat.reduceLeDiff, Nat.reduceMul, Nat.reduceBEq, Nat.reduceBneDiff, Nat.reduceLT, Nat.reduceSub, iL, iN]
 refine vc_onU (α := Nat) [3, 4, 5, 6, 7, 8, 9, 10, 11, 12, 13, 14, 15, 16, 17, 18, 19, 20] (fun i => [(4, .im none (.sc (.int .i64 i))), (3, .im none (.sc (.string (joinP ⟨#[91]⟩ ⟨#[59, 32]⟩ ((l.2.map textE).take i)))))]) (fun i => []) (fun i => i ≤ l.2.length) (fun i => l.2.length - i) 0 (Ent.to [] (by simp only [go_sem, ↓reduceIte, Nat.reduceEqDiff, Nat.reduceBEq, Nat.reduceBneDiff]; rfl) rfl (by simp) (by rfl) (by simp only [subEnv, go_sem, ↓reduceIte, Nat.reduceEqDiff, Nat.reduceBEq, keep, memN, Bool.or_false, Bool.false_or, Bool.or_self] <;> simp [joinP_nil])) (Nat.zero_le _) ?_
 intro i hi0
 by_cases hi : i < l.2.length
 ·have e1 := at_map (f := eE) hi
  have hE := hx _ (List.getElem_mem hi)
  have hz1 := okE_size hg hE
  have hz := joinP_size (s := ⟨#[91]⟩) (sep := ⟨#[59, 32]⟩) (ts := (l.2.map textE).take i) (c := 1000) fun t ht => by
   obtain ⟨e, he, rfl⟩ := List.mem_map.1 (List.mem_of_mem_take ht)
   exact okE_size hg (hx e he)
  simp only [bsz, List.size_toArray, lK, lZ, List.length_take, lM] at hz
  have hi2 : i < (l.2.map textE).length := by simpa using hi
  by_cases h0 : 0 < i
  ·have ht := joinP_take (s := ⟨#[91]⟩) (sep := ⟨#[59, 32]⟩) hi2 h0
   have h0' : (i : Int) > 0 := by omega
   simp only [List.getElem_map] at ht
   generalize joinP ⟨#[91]⟩ ⟨#[59, 32]⟩ ((l.2.map textE).take i) = s at ht hz ⊢
   simp +contextual -implicitDefEqProofs only [hi, h0', e1, eS, eT, eE_size, eE_isAg, D.put, D.cells, Int.cast_ofNat_Int, Int.reduceLT, Int.reduceLE, Int.le_refl, Int.reduceBEq, Int.reduceEq, bE, Int.reduceToNat, D.size, D.sizeL, sub_agt, sub_agf, sub_sc, sub_ls, isAg_ag, isAg_sc, isAg_ls, List.getD_cons_zero, List.getD_cons_succ, List.drop_zero, List.take_succ_cons, List.take_zero, List.drop_succ_cons, modeOf, noPtrs, lM, go_sem, eI, eB, ↓reduceIte, Nat.reduceEqDiff, Nat.reduceAdd, Nat.reduceLeDiff, Nat.reduceMul, Nat.reduceBEq, Nat.reduceBneDiff, Nat.reduceLT, Nat.reduceSub, iL, iN]
   refine ⟨by first | (simp only [ByteArray.size_append, bsz, List.size_toArray, lK, lZ]; omega) | omega, ?_⟩
   refine callQ_self (ds := [.pt (eE l.2[i]) 0]) (by rfl) (hc1 g0 hg _ (okE_tree hE) (by omega)) ?_
   simp +contextual -implicitDefEqProofs only [eT, D.put, D.cells, Int.cast_ofNat_Int, Int.reduceLT, Int.reduceLE, Int.le_refl, Int.reduceBEq, Int.reduceEq, bE, Int.reduceToNat, D.size, D.sizeL, sub_agt, sub_agf, sub_sc, sub_ls, isAg_ag, isAg_sc, isAg_ls, List.getD_cons_zero, List.getD_cons_succ, List.drop_zero, List.take_succ_cons, List.take_zero, List.drop_succ_cons, modeOf, noPtrs, lM, go_sem, eI, eB, ↓reduceIte, Nat.reduceEqDiff, Nat.reduceAdd, Nat.reduceLeDiff, Nat.reduceMul, Nat.reduceBEq, Nat.reduceBneDiff, Nat.reduceLT, Nat.reduceSub, iL, iN]
   refine ⟨by first | (simp only [ByteArray.size_append, bsz, List.size_toArray, lK, lZ]; omega) | omega, i + 1, by omega, by omega, ?_⟩
   rw [wrap_i64 (by omega) (by omega)]
   exact Ent.to [] (by simp only [go_sem, ↓reduceIte, Nat.reduceEqDiff, Nat.reduceBEq, Nat.reduceBneDiff]; rfl) rfl (by simp) (by rfl) (by simp only [subEnv, go_sem, ↓reduceIte, Nat.reduceEqDiff, Nat.reduceBEq, keep, memN, Bool.or_false, Bool.false_or, Bool.or_self] <;> simp [ht])
  ·have ht := joinP_takeZ (s := ⟨#[91]⟩) (sep := ⟨#[59, 32]⟩) hi2 h0
   have h0' : ¬ (i : Int) > 0 := by omega
   simp only [List.getElem_map] at ht
   generalize joinP ⟨#[91]⟩ ⟨#[59, 32]⟩ ((l.2.map textE).take i) = s at ht hz ⊢
   simp +contextual -implicitDefEqProofs only [hi, h0', e1, eS, eT, eE_size, eE_isAg, D.put, D.cells, Int.cast_ofNat_Int, Int.reduceLT, Int.reduceLE, Int.le_refl, Int.reduceBEq, Int.reduceEq, bE, Int.reduceToNat, D.size, D.sizeL, sub_agt, sub_agf, sub_sc, sub_ls, isAg_ag, isAg_sc, isAg_ls, List.getD_cons_zero, List.getD_cons_succ, List.drop_zero, List.take_succ_cons, List.take_zero, List.drop_succ_cons, modeOf, noPtrs, lM, go_sem, eI, eB, ↓reduceIte, Nat.reduceEqDiff, Nat.reduceAdd, Nat.reduceLeDiff, Nat.reduceMul, Nat.reduceBEq, Nat.reduceBneDiff, Nat.reduceLT, Nat.reduceSub, iL, iN]
   refine callQ_self (ds := [.pt (eE l.2[i]) 0]) (by rfl) (hc1 g0 hg _ (okE_tree hE) (by omega)) ?_
   simp +contextual -implicitDefEqProofs only [eT, D.put, D.cells, Int.cast_ofNat_Int, Int.reduceLT, Int.reduceLE, Int.le_refl, Int.reduceBEq, Int.reduceEq, bE, Int.reduceToNat, D.size, D.sizeL, sub_agt, sub_agf, sub_sc, sub_ls, isAg_ag, isAg_sc, isAg_ls, List.getD_cons_zero, List.getD_cons_succ, List.drop_zero, List.take_succ_cons, List.take_zero, List.drop_succ_cons, modeOf, noPtrs, lM, go_sem, eI, eB, ↓reduceIte, Nat.reduceEqDiff, Nat.reduceAdd, Nat.reduceLeDiff, Nat.reduceMul, Nat.reduceBEq, Nat.reduceBneDiff, Nat.reduceLT, Nat.reduceSub, iL, iN]
   refine ⟨by first | (simp only [ByteArray.size_append, bsz, List.size_toArray, lK, lZ]; omega) | omega, i + 1, by omega, by omega, ?_⟩
   rw [wrap_i64 (by omega) (by omega)]
   exact Ent.to [] (by simp only [go_sem, ↓reduceIte, Nat.reduceEqDiff, Nat.reduceBEq, Nat.reduceBneDiff]; rfl) rfl (by simp) (by rfl) (by simp only [subEnv, go_sem, ↓reduceIte, Nat.reduceEqDiff, Nat.reduceBEq, keep, memN, Bool.or_false, Bool.false_or, Bool.or_self] <;> simp [ht])
 ·obtain rfl : i = l.2.length := by omega
  have hz := listT_size hg hl hx
  simp only [listT, ByteArray.size_append] at hz
  rw [List.take_of_length_le (by simp)]
  simp +contextual -implicitDefEqProofs only [hi, eS, eT, D.put, D.cells, Int.cast_ofNat_Int, Int.reduceLT, Int.reduceLE, Int.le_refl, Int.reduceBEq, Int.reduceEq, bE, Int.reduceToNat, D.size, D.sizeL, sub_agt, sub_agf, sub_sc, sub_ls, isAg_ag, isAg_sc, isAg_ls, List.getD_cons_zero, List.getD_cons_succ, List.drop_zero, List.take_succ_cons, List.take_zero, List.drop_succ_cons, modeOf, noPtrs, lM, go_sem, eI, eB, ↓reduceIte, Nat.reduceEqDiff, Nat.reduceAdd, Nat.reduceLeDiff, Nat.reduceMul, Nat.reduceBEq, Nat.reduceBneDiff, Nat.reduceLT, Nat.reduceSub, iL, iN]
  have hz3 : (⟨#[93]⟩ : ByteArray).size = 1 := rfl
  rw [hz3] at hz
  exact ⟨by first | (simp only [ByteArray.size_append, bsz, List.size_toArray, lK, lZ]; omega) | omega, D.Le.sc_eq rfl⟩
def useT (u : Int) : ByteArray := if u < 0 then ⟨#[108, 101, 109, 109, 97, 32]⟩ ++ decB (-1 - u).toNat else ⟨#[97, 120, 105, 111, 109, 32]⟩ ++ decB u.toNat
def backT (b : Bool) : ByteArray := if b then ⟨#[32, 60, 32]⟩ else ⟨#[32, 62, 32]⟩
def pathL (l : List Int) : List ByteArray := l.map fun x => decB x.toNat
def dashT (l : List Int) : ByteArray := if l.isEmpty then ⟨#[45]⟩ else ⟨#[]⟩

def stepT (s : Stp) : ByteArray := joinP (useT s.1 ++ backT s.2.1) ⟨#[46]⟩ (pathL s.2.2.1.2) ++ dashT s.2.2.1.2 ++ ⟨#[32]⟩ ++ listT s.2.2.2.1.2 ++ ⟨#[32]⟩ ++ listT s.2.2.2.2.2 ++ ⟨#[10]⟩
theorem useT_size {u : Int} : (useT u).size ≤ 8 := by
 have h1 := decB_size (n := (-1 - u).toNat)
 have h2 := decB_size (n := u.toNat)
 unfold useT
 split <;> simp only [ByteArray.size_append, bsz, List.size_toArray, lK, lZ] <;> omega
theorem backT_size {b : Bool} : (backT b).size = 3 := by cases b <;> rfl
theorem dashT_size {l : List Int} : (dashT l).size ≤ 1 := by cases l <;> simp [dashT, bsz]
theorem pathL_size {s : ByteArray} {l : List Int} : (joinP s ⟨#[46]⟩ (pathL l)).size ≤ s.size + 3 * l.length := by
 have := joinP_size (s := s) (sep := ⟨#[46]⟩) (ts := pathL l) (c := 2) fun t ht => by
  obtain ⟨x, _, rfl⟩ := List.mem_map.1 ht
  exact decB_size
 simpa only [bsz, List.size_toArray, lK, lZ, pathL, lM, Nat.zero_add, Nat.reduceAdd] using this
theorem okSt_and {g : Int × Int} {s : Stp} (h : okSt g s = true) : (-40 ≤ s.1 ∧ s.1 ≤ 23) ∧ s.2.2.1.2.length ≤ 40 ∧ (∀ x ∈ s.2.2.1.2, 0 ≤ x ∧ x ≤ 1) ∧ s.2.2.2.1.2.length ≤ 3 ∧ s.2.2.2.2.2.length ≤ 4 ∧ (∀ e ∈ s.2.2.2.1.2, okE g e = true) ∧ ∀ e ∈ s.2.2.2.2.2, okE g e = true := by
 simp only [okSt, allIn, bA, decide_eq_true_eq, isIn_iff', List.all_eq_true] at h
 obtain ⟨h1, h2, h3, h4, h5, h6, _, h8⟩ := h
 exact ⟨h1, by omega, h3, by omega, by omega, h6, h8⟩
theorem stepT_size {g : Int × Int} (hg : okG g = true) {s : Stp} (h : okSt g s = true) : (stepT s).size ≤ 9000 := by
 obtain ⟨_, h2, _, h4, h5, h6, h8⟩ := okSt_and h
 have l1 := listT_size hg (by omega) h6
 have l2 := listT_size hg h5 h8
 have p := pathL_size (s := useT s.1 ++ backT s.2.1) (l := s.2.2.1.2)
 have u1 := useT_size (u := s.1)
 have u2 := backT_size (b := s.2.1)
 have u3 := dashT_size (l := s.2.2.1.2)
 simp only [stepT, ByteArray.size_append, bsz, List.size_toArray, lK, lZ] at p ⊢
 omega

def k_l04StepText (f1 f2 f3 : Nat) : RC := (.seq (.r [⟨none, .mv 2 (.c (.sc (.string ⟨#[]⟩)))⟩]) (.seq (.r [.m 5 0, .n 6 5, .f 7 0 6, .l 8 1 7, .c 9 f1 [.t 8, .ci 0], .c 10 f2 [.t 9], ⟨none, .bin 11 .add (.c (.sc (.string ⟨#[97, 120, 105, 111, 109, 32]⟩))) (.t 10)⟩, .m 3 11]) (.seq (.seq (.r [.m 12 0, .n 13 12, .f 14 0 13, .l 15 1 14, .o (.bin 16 .lss (.t 15) (.ci 0))]) (.cond (.t 16) (.r [.m 17 0, .n 18 17, .f 19 0 18, .l 20 1 19, .o (.bin 21 .sub (.c (.sc (.int .i64 (-1)))) (.t 20)), .c 22 f2 [.t 21], ⟨none, .bin 23 .add (.c (.sc (.string ⟨#[108, 101, 109, 109, 97, 32]⟩))) (.t 22)⟩, .m 3 23]) .skip)) (.seq (.seq (.r [.m 24 0, .n 25 24, .f 26 1 25, .l 27 1 26]) (.cond (.t 27) (.r [.m 28 3, ⟨none, .bin 29 .add (.t 28) (.c (.sc (.string ⟨#[32, 60, 32]⟩)))⟩, .m 3 29]) (.r [.m 30 3, ⟨none, .bin 31 .add (.t 30) (.c (.sc (.string ⟨#[32, 62, 32]⟩)))⟩, .m 3 31]))) (.seq (.seq (.r [.v 4 (.ci 0)]) (.blk 0 (.loop (.seq (.seq (.r [.m 32 4, .m 33 0, .n 34 33, .f 35 2 34, .l 36 1 35, .o (.len 37 (.t 36)), .o (.bin 38 .lss (.t 32) (.t 37))]) (.cond (.t 38) .skip (.exit 0))) (.seq (.blk 1 (.seq (.seq (.r [.m 41 4, .o (.bin 42 .gtr (.t 41) (.ci 0))]) (.cond (.t 42) (.r [.m 43 3, ⟨none, .bin 44 .add (.t 43) (.c (.sc (.string ⟨#[46]⟩)))⟩, .m 3 44]) .skip)) (.r [.m 45 3, .m 46 0, .n 47 46, .f 48 2 47, .l 49 1 48, .m 50 4, .o (.ia 51 1 (.t 49) (.t 50)), .l 52 1 51, .c 53 f2 [.t 52], .o (.bin 54 .add (.t 45) (.t 53)), .m 3 54]))) (.r [.m 39 4, .o (.bin 40 .add (.t 39) (.ci 1)), .m 4 40])))))) (.seq (.seq (.r [.m 55 0, .n 56 55, .f 57 2 56, .l 58 1 57, .o (.len 59 (.t 58)), .q 60 59 0]) (.cond (.t 60) (.r [.m 61 3, ⟨none, .bin 62 .add (.t 61) (.c (.sc (.string ⟨#[45]⟩)))⟩, .m 3 62]) .skip)) (.seq (.reg true [.m 63 3, ⟨none, .bin 64 .add (.t 63) (.c (.sc (.string ⟨#[32]⟩)))⟩, .m 65 0, .n 66 65, .f 67 3 66, .l 68 1 67, .c 69 f3 [.t 68], .o (.bin 70 .add (.t 64) (.t 69)), ⟨none, .bin 71 .add (.t 70) (.c (.sc (.string ⟨#[32]⟩)))⟩, .m 72 0, .n 73 72, .f 74 4 73, .l 75 1 74, .c 76 f3 [.t 75], .o (.bin 77 .add (.t 71) (.t 76)), ⟨none, .bin 78 .add (.t 77) (.c (.sc (.string ⟨#[10]⟩)))⟩, .m 2 78]) .ret)))))))
def K_l04StepText (P : Program) (fno : Nat) : Prop := ∀ (g0 : Int × Int) (hg : okG g0 = true) (s : Stp) (hs : okSt g0 s = true), AF P fno [.pt (eSt s) 0] (.own (eT (stepT s)))
theorem a_l04StepText {P : Program} (hm : P.follows .mixedOrders = true) {g f1 f2 f3 : Nat} (hr : resF P g = some (79, k_l04StepText f1 f2 f3, [.t 2])) (hc1 : K_l00Max P f1) (hc2 : K_spDecimal P f2) (hc3 : K_l04List P f3) : K_l04StepText P g := by
 intro g0 hg s hs
 obtain ⟨u, bk, ⟨pn, pl⟩, ⟨tn, tl⟩, ⟨an, al⟩⟩ := s
 obtain ⟨hU, hP, hPx, hTl, hAl, hTx, hAx⟩ := okSt_and hs
 simp only at hU hP hPx hTl hAl hTx hAx
 have hn0 : (if u > 0 then u else 0) = ((u.toNat : Nat) : Int) := by split <;> omega
 have d0 := decB_size (n := u.toNat)
 have d1 := decB_size (n := (-1 - u).toNat)
 refine af_of_res hr hm rfl fun hb => ?_
 simp +contextual -implicitDefEqProofs only [k_l04StepText, eSt, eS, eI, eB, eT, Int.cast_ofNat_Int, Int.reduceLT, Int.reduceLE, Int.le_refl, Int.reduceBEq, Int.reduceEq, bE, Int.reduceToNat, D.size, D.sizeL, sub_agt, sub_agf, sub_sc, sub_ls, isAg_ag, isAg_sc, isAg_ls, D.at, List.getD_cons_zero, List.getD_cons_succ, List.drop_zero, List.take_succ_cons, List.take_zero, List.drop_succ_cons, modeOf, noPtrs, lM, go_sem, ↓reduceIte, Nat.reduceEqDiff, Nat.reduceAdd, Nat.reduceLeDiff, Nat.reduceMul, Nat.reduceBEq, Nat.reduceBneDiff, Nat.reduceLT, Nat.reduceSub, iL, iN]
 refine callQ_self (ds := [eI u, eI 0]) (by rfl) (hc1 u 0) ?_
 rw [hn0]
 simp +contextual -implicitDefEqProofs only [eSt, eS, eI, eB, eT, Int.cast_ofNat_Int, Int.reduceLT, Int.reduceLE, Int.le_refl, Int.reduceBEq, Int.reduceEq, bE, Int.reduceToNat, D.size, D.sizeL, sub_agt, sub_agf, sub_sc, sub_ls, isAg_ag, isAg_sc, isAg_ls, D.at, List.getD_cons_zero, List.getD_cons_succ, List.drop_zero, List.take_succ_cons, List.take_zero, List.drop_succ_cons, modeOf, noPtrs, lM, go_sem, ↓reduceIte, Nat.reduceEqDiff, Nat.reduceAdd, Nat.reduceLeDiff, Nat.reduceMul, Nat.reduceBEq, Nat.reduceBneDiff, Nat.reduceLT, Nat.reduceSub, iL, iN]
 refine callQ_self (ds := [eI (u.toNat : Nat)]) (by rfl) (hc2 u.toNat (by omega)) ?_
 simp +contextual -implicitDefEqProofs only [eSt, eS, eI, eB, eT, Int.cast_ofNat_Int, Int.reduceLT, Int.reduceLE, Int.le_refl, Int.reduceBEq, Int.reduceEq, bE, Int.reduceToNat, D.size, D.sizeL, sub_agt, sub_agf, sub_sc, sub_ls, isAg_ag, isAg_sc, isAg_ls, D.at, List.getD_cons_zero, List.getD_cons_succ, List.drop_zero, List.take_succ_cons, List.take_zero, List.drop_succ_cons, modeOf, noPtrs, lM, go_sem, ↓reduceIte, Nat.reduceEqDiff, Nat.reduceAdd, Nat.reduceLeDiff, Nat.reduceMul, Nat.reduceBEq, Nat.reduceBneDiff, Nat.reduceLT, Nat.reduceSub, iL, iN]
 refine ⟨by first | (simp only [ByteArray.size_append, bsz, List.size_toArray, lK, lZ]; omega) | omega, ?_⟩
 by_cases hu : u < 0
 ·have hw : IntKind.i64.wrap (-1 - u) = (((-1 - u).toNat : Nat) : Int) := by rw [wrap_i64 (by omega) (by omega)]; omega
  have hue : useT u = ⟨#[108, 101, 109, 109, 97, 32]⟩ ++ decB (-1 - u).toNat := by simp only [useT, hu, if_true]
  simp +contextual -implicitDefEqProofs only [hu, hw, eSt, eS, eI, eB, eT, Int.cast_ofNat_Int, Int.reduceLT, Int.reduceLE, Int.le_refl, Int.reduceBEq, Int.reduceEq, bE, Int.reduceToNat, D.size, D.sizeL, sub_agt, sub_agf, sub_sc, sub_ls, isAg_ag, isAg_sc, isAg_ls, D.at, List.getD_cons_zero, List.getD_cons_succ, List.drop_zero, List.take_succ_cons, List.take_zero, List.drop_succ_cons, modeOf, noPtrs, lM, go_sem, ↓reduceIte, Nat.reduceEqDiff, Nat.reduceAdd, Nat.reduceLeDiff, Nat.reduceMul, Nat.reduceBEq, Nat.reduceBneDiff, Nat.reduceLT, Nat.reduceSub, iL, iN]
  refine callQ_self (ds := [eI ((-1 - u).toNat : Nat)]) (by rfl) (hc2 (-1 - u).toNat (by omega)) ?_
  simp +contextual -implicitDefEqProofs only [eSt, eS, eI, eB, eT, Int.cast_ofNat_Int, Int.reduceLT, Int.reduceLE, Int.le_refl, Int.reduceBEq, Int.reduceEq, bE, Int.reduceToNat, D.size, D.sizeL, sub_agt, sub_agf, sub_sc, sub_ls, isAg_ag, isAg_sc, isAg_ls, D.at, List.getD_cons_zero, List.getD_cons_succ, List.drop_zero, List.take_succ_cons, List.take_zero, List.drop_succ_cons, modeOf, noPtrs, lM, go_sem, ↓reduceIte, Nat.reduceEqDiff, Nat.reduceAdd, Nat.reduceLeDiff, Nat.reduceMul, Nat.reduceBEq, Nat.reduceBneDiff, Nat.reduceLT, Nat.reduceSub, iL, iN]
  refine ⟨by first | (simp only [ByteArray.size_append, bsz, List.size_toArray, lK, lZ]; omega) | omega, ?_⟩
  cases bk
  ·simp +contextual -implicitDefEqProofs only [eSt, eS, eI, eB, eT, Int.cast_ofNat_Int, Int.reduceLT, Int.reduceLE, Int.le_refl, Int.reduceBEq, Int.reduceEq, bE, Int.reduceToNat, D.size, D.sizeL, sub_agt, sub_agf, sub_sc, sub_ls, isAg_ag, isAg_sc, isAg_ls, D.at, List.getD_cons_zero, List.getD_cons_succ, List.drop_zero, List.take_succ_cons, List.take_zero, List.drop_succ_cons, modeOf, noPtrs, lM, go_sem, ↓reduceIte, Nat.reduceEqDiff, Nat.reduceAdd, Nat.reduceLeDiff, Nat.reduceMul, Nat.reduceBEq, Nat.reduceBneDiff, Nat.reduceLT, Nat.reduceSub, iL, iN]
   refine ⟨by first | (simp only [ByteArray.size_append, bsz, List.size_toArray, lK, lZ]; omega) | omega, ?_⟩
   rw [show stepT (u, false, (pn, pl), (tn, tl), (an, al)) = joinP (useT u ++ backT false) ⟨#[46]⟩ (pathL pl) ++ dashT pl ++ ⟨#[32]⟩ ++ listT tl ++ ⟨#[32]⟩ ++ listT al ++ ⟨#[10]⟩ from rfl, hue, show backT false = ⟨#[32, 62, 32]⟩ from rfl]
   generalize hH : (⟨#[108, 101, 109, 109, 97, 32]⟩ ++ decB (-1 - u).toNat ++ ⟨#[32, 62, 32]⟩ : ByteArray) = H
   have hzH : H.size ≤ 11 := by
    rw [← hH]
    simp only [ByteArray.size_append, bsz, List.size_toArray, lK, lZ]
    omega
   clear hH
   refine vc_onU (α := Nat) [3, 4, 32, 33, 34, 35, 36, 37, 38, 39, 40, 41, 42, 43, 44, 45, 46, 47, 48, 49, 50, 51, 52, 53, 54] (fun i => [(4, .im none (.sc (.int .i64 i))), (3, .im none (.sc (.string (joinP H ⟨#[46]⟩ ((pathL pl).take i)))))]) (fun i => []) (fun i => i ≤ pl.length) (fun i => pl.length - i) 0 (Ent.to [] (by simp only [go_sem, ↓reduceIte, Nat.reduceEqDiff, Nat.reduceBEq, Nat.reduceBneDiff]; rfl) rfl (by simp) (by rfl) (by simp only [subEnv, go_sem, ↓reduceIte, Nat.reduceEqDiff, Nat.reduceBEq, keep, memN, Bool.or_false, Bool.false_or, Bool.or_self] <;> simp [joinP_nil])) (Nat.zero_le _) ?_
   intro i hi0
   by_cases hi : i < pl.length
   ·have e1 := at_map (f := eI) hi
    have hq := hPx _ (List.getElem_mem hi)
    have hqe : pl[i] = ((pl[i].toNat : Nat) : Int) := by omega
    rw [hqe] at e1
    have dq := decB_size (n := pl[i].toNat)
    have hz := pathL_size (s := H) (l := pl.take i)
    rw [show pathL (pl.take i) = (pathL pl).take i by simp only [pathL, List.map_take], List.length_take] at hz
    have hi2 : i < (pathL pl).length := by simpa [pathL] using hi
    have hge : (pathL pl)[i] = decB pl[i].toNat := by simp [pathL]
    by_cases h0 : 0 < i
    ·have ht := joinP_take (s := H) (sep := ⟨#[46]⟩) hi2 h0
     have h0' : (i : Int) > 0 := by omega
     rw [hge] at ht
     generalize joinP H ⟨#[46]⟩ ((pathL pl).take i) = s at ht hz ⊢
     simp +contextual -implicitDefEqProofs only [hi, h0', e1, eSt, eS, eI, eB, eT, D.put, D.cells, Int.cast_ofNat_Int, Int.reduceLT, Int.reduceLE, Int.le_refl, Int.reduceBEq, Int.reduceEq, bE, Int.reduceToNat, D.size, D.sizeL, sub_agt, sub_agf, sub_sc, sub_ls, isAg_ag, isAg_sc, isAg_ls, List.getD_cons_zero, List.getD_cons_succ, List.drop_zero, List.take_succ_cons, List.take_zero, List.drop_succ_cons, modeOf, noPtrs, lM, go_sem, ↓reduceIte, Nat.reduceEqDiff, Nat.reduceAdd, Nat.reduceLeDiff, Nat.reduceMul, Nat.reduceBEq, Nat.reduceBneDiff, Nat.reduceLT, Nat.reduceSub, iL, iN]
     refine ⟨by first | (simp only [ByteArray.size_append, bsz, List.size_toArray, lK, lZ]; omega) | omega, ?_⟩
     refine callQ_self (ds := [eI (pl[i].toNat : Nat)]) (by rfl) (hc2 pl[i].toNat (by omega)) ?_
     simp +contextual -implicitDefEqProofs only [eSt, eS, eI, eB, eT, D.put, D.cells, Int.cast_ofNat_Int, Int.reduceLT, Int.reduceLE, Int.le_refl, Int.reduceBEq, Int.reduceEq, bE, Int.reduceToNat, D.size, D.sizeL, sub_agt, sub_agf, sub_sc, sub_ls, isAg_ag, isAg_sc, isAg_ls, List.getD_cons_zero, List.getD_cons_succ, List.drop_zero, List.take_succ_cons, List.take_zero, List.drop_succ_cons, modeOf, noPtrs, lM, go_sem, ↓reduceIte, Nat.reduceEqDiff, Nat.reduceAdd, Nat.reduceLeDiff, Nat.reduceMul, Nat.reduceBEq, Nat.reduceBneDiff, Nat.reduceLT, Nat.reduceSub, iL, iN]
     refine ⟨by first | (simp only [ByteArray.size_append, bsz, List.size_toArray, lK, lZ]; omega) | omega, i + 1, by omega, by omega, ?_⟩
     rw [wrap_i64 (by omega) (by omega)]
     exact Ent.to [] (by simp only [go_sem, ↓reduceIte, Nat.reduceEqDiff, Nat.reduceBEq, Nat.reduceBneDiff]; rfl) rfl (by simp) (by rfl) (by simp only [subEnv, go_sem, ↓reduceIte, Nat.reduceEqDiff, Nat.reduceBEq, keep, memN, Bool.or_false, Bool.false_or, Bool.or_self] <;> simp [ht])
    ·have ht := joinP_takeZ (s := H) (sep := ⟨#[46]⟩) hi2 h0
     have h0' : ¬ (i : Int) > 0 := by omega
     rw [hge] at ht
     generalize joinP H ⟨#[46]⟩ ((pathL pl).take i) = s at ht hz ⊢
     simp +contextual -implicitDefEqProofs only [hi, h0', e1, eSt, eS, eI, eB, eT, D.put, D.cells, Int.cast_ofNat_Int, Int.reduceLT, Int.reduceLE, Int.le_refl, Int.reduceBEq, Int.reduceEq, bE, Int.reduceToNat, D.size, D.sizeL, sub_agt, sub_agf, sub_sc, sub_ls, isAg_ag, isAg_sc, isAg_ls, List.getD_cons_zero, List.getD_cons_succ, List.drop_zero, List.take_succ_cons, List.take_zero, List.drop_succ_cons, modeOf, noPtrs, lM, go_sem, ↓reduceIte, Nat.reduceEqDiff, Nat.reduceAdd, Nat.reduceLeDiff, Nat.reduceMul, Nat.reduceBEq, Nat.reduceBneDiff, Nat.reduceLT, Nat.reduceSub, iL, iN]
     refine callQ_self (ds := [eI (pl[i].toNat : Nat)]) (by rfl) (hc2 pl[i].toNat (by omega)) ?_
     simp +contextual -implicitDefEqProofs only [eSt, eS, eI, eB, eT, D.put, D.cells, Int.cast_ofNat_Int, Int.reduceLT, Int.reduceLE, Int.le_refl, Int.reduceBEq, Int.reduceEq, bE, Int.reduceToNat, D.size, D.sizeL, sub_agt, sub_agf, sub_sc, sub_ls, isAg_ag, isAg_sc, isAg_ls, List.getD_cons_zero, List.getD_cons_succ, List.drop_zero, List.take_succ_cons, List.take_zero, List.drop_succ_cons, modeOf, noPtrs, lM, go_sem, ↓reduceIte, Nat.reduceEqDiff, Nat.reduceAdd, Nat.reduceLeDiff, Nat.reduceMul, Nat.reduceBEq, Nat.reduceBneDiff, Nat.reduceLT, Nat.reduceSub, iL, iN]
     refine ⟨by first | (simp only [ByteArray.size_append, bsz, List.size_toArray, lK, lZ]; omega) | omega, i + 1, by omega, by omega, ?_⟩
     rw [wrap_i64 (by omega) (by omega)]
     exact Ent.to [] (by simp only [go_sem, ↓reduceIte, Nat.reduceEqDiff, Nat.reduceBEq, Nat.reduceBneDiff]; rfl) rfl (by simp) (by rfl) (by simp only [subEnv, go_sem, ↓reduceIte, Nat.reduceEqDiff, Nat.reduceBEq, keep, memN, Bool.or_false, Bool.false_or, Bool.or_self] <;> simp [ht])
   ·obtain rfl : i = pl.length := by omega
    have hz := pathL_size (s := H) (l := pl)
    rw [List.take_of_length_le (by simp [pathL])]
    have l1 := listT_size hg (by omega) hTx
    have l2 := listT_size hg hAl hAx
    generalize joinP H ⟨#[46]⟩ (pathL pl) = Q at hz ⊢
    by_cases hp0 : pl.length = 0
    ·have hd : dashT pl = ⟨#[45]⟩ := by
      have : pl = [] := List.eq_nil_of_length_eq_zero hp0
      subst this; rfl
     have hpe : ((pl.length : Int) == 0) = true := by simp [hp0]
     simp +contextual -implicitDefEqProofs only [hi, hpe, eSt, eS, eI, eB, eT, D.put, D.cells, Int.cast_ofNat_Int, Int.reduceLT, Int.reduceLE, Int.le_refl, Int.reduceBEq, Int.reduceEq, bE, Int.reduceToNat, D.size, D.sizeL, sub_agt, sub_agf, sub_sc, sub_ls, isAg_ag, isAg_sc, isAg_ls, List.getD_cons_zero, List.getD_cons_succ, List.drop_zero, List.take_succ_cons, List.take_zero, List.drop_succ_cons, modeOf, noPtrs, lM, go_sem, ↓reduceIte, Nat.reduceEqDiff, Nat.reduceAdd, Nat.reduceLeDiff, Nat.reduceMul, Nat.reduceBEq, Nat.reduceBneDiff, Nat.reduceLT, Nat.reduceSub, iL, iN]
     refine ⟨by first | (simp only [ByteArray.size_append, bsz, List.size_toArray, lK, lZ]; omega) | omega, by first | (simp only [ByteArray.size_append, bsz, List.size_toArray, lK, lZ]; omega) | omega, callQ_self (ds := [eS 3 eE (tn, tl)]) (by rfl) (hc3 g0 hg (tn, tl) (by show tl.length ≤ 4; omega) hTx) ?_⟩
     simp +contextual -implicitDefEqProofs only [eSt, eS, eI, eB, eT, D.put, D.cells, Int.cast_ofNat_Int, Int.reduceLT, Int.reduceLE, Int.le_refl, Int.reduceBEq, Int.reduceEq, bE, Int.reduceToNat, D.size, D.sizeL, sub_agt, sub_agf, sub_sc, sub_ls, isAg_ag, isAg_sc, isAg_ls, List.getD_cons_zero, List.getD_cons_succ, List.drop_zero, List.take_succ_cons, List.take_zero, List.drop_succ_cons, modeOf, noPtrs, lM, go_sem, ↓reduceIte, Nat.reduceEqDiff, Nat.reduceAdd, Nat.reduceLeDiff, Nat.reduceMul, Nat.reduceBEq, Nat.reduceBneDiff, Nat.reduceLT, Nat.reduceSub, iL, iN]
     refine ⟨by first | (simp only [ByteArray.size_append, bsz, List.size_toArray, lK, lZ]; omega) | omega, by first | (simp only [ByteArray.size_append, bsz, List.size_toArray, lK, lZ]; omega) | omega, callQ_self (ds := [eS 3 eE (an, al)]) (by rfl) (hc3 g0 hg (an, al) hAl hAx) ?_⟩
     simp +contextual -implicitDefEqProofs only [eSt, eS, eI, eB, eT, D.put, D.cells, Int.cast_ofNat_Int, Int.reduceLT, Int.reduceLE, Int.le_refl, Int.reduceBEq, Int.reduceEq, bE, Int.reduceToNat, D.size, D.sizeL, sub_agt, sub_agf, sub_sc, sub_ls, isAg_ag, isAg_sc, isAg_ls, List.getD_cons_zero, List.getD_cons_succ, List.drop_zero, List.take_succ_cons, List.take_zero, List.drop_succ_cons, modeOf, noPtrs, lM, go_sem, ↓reduceIte, Nat.reduceEqDiff, Nat.reduceAdd, Nat.reduceLeDiff, Nat.reduceMul, Nat.reduceBEq, Nat.reduceBneDiff, Nat.reduceLT, Nat.reduceSub, iL, iN]
     exact ⟨by first | (simp only [ByteArray.size_append, bsz, List.size_toArray, lK, lZ]; omega) | omega, by first | (simp only [ByteArray.size_append, bsz, List.size_toArray, lK, lZ]; omega) | omega, D.Le.sc_eq (by rw [hd])⟩
    ·have hd : dashT pl = ⟨#[]⟩ := by
      cases pl with
      | nil => exact absurd rfl hp0
      | cons y r => rfl
     have hpe : ((pl.length : Int) == 0) = false := by simp; exact fun e => hp0 (by rw [e]; rfl)
     simp +contextual -implicitDefEqProofs only [hi, hpe, eSt, eS, eI, eB, eT, D.put, D.cells, Int.cast_ofNat_Int, Int.reduceLT, Int.reduceLE, Int.le_refl, Int.reduceBEq, Int.reduceEq, bE, Int.reduceToNat, D.size, D.sizeL, sub_agt, sub_agf, sub_sc, sub_ls, isAg_ag, isAg_sc, isAg_ls, List.getD_cons_zero, List.getD_cons_succ, List.drop_zero, List.take_succ_cons, List.take_zero, List.drop_succ_cons, modeOf, noPtrs, lM, go_sem, ↓reduceIte, Nat.reduceEqDiff, Nat.reduceAdd, Nat.reduceLeDiff, Nat.reduceMul, Nat.reduceBEq, Nat.reduceBneDiff, Nat.reduceLT, Nat.reduceSub, iL, iN]
     refine ⟨by first | (simp only [ByteArray.size_append, bsz, List.size_toArray, lK, lZ]; omega) | omega, callQ_self (ds := [eS 3 eE (tn, tl)]) (by rfl) (hc3 g0 hg (tn, tl) (by show tl.length ≤ 4; omega) hTx) ?_⟩
     simp +contextual -implicitDefEqProofs only [eSt, eS, eI, eB, eT, D.put, D.cells, Int.cast_ofNat_Int, Int.reduceLT, Int.reduceLE, Int.le_refl, Int.reduceBEq, Int.reduceEq, bE, Int.reduceToNat, D.size, D.sizeL, sub_agt, sub_agf, sub_sc, sub_ls, isAg_ag, isAg_sc, isAg_ls, List.getD_cons_zero, List.getD_cons_succ, List.drop_zero, List.take_succ_cons, List.take_zero, List.drop_succ_cons, modeOf, noPtrs, lM, go_sem, ↓reduceIte, Nat.reduceEqDiff, Nat.reduceAdd, Nat.reduceLeDiff, Nat.reduceMul, Nat.reduceBEq, Nat.reduceBneDiff, Nat.reduceLT, Nat.reduceSub, iL, iN]
     refine ⟨by first | (simp only [ByteArray.size_append, bsz, List.size_toArray, lK, lZ]; omega) | omega, by first | (simp only [ByteArray.size_append, bsz, List.size_toArray, lK, lZ]; omega) | omega, callQ_self (ds := [eS 3 eE (an, al)]) (by rfl) (hc3 g0 hg (an, al) hAl hAx) ?_⟩
     simp +contextual -implicitDefEqProofs only [eSt, eS, eI, eB, eT, D.put, D.cells, Int.cast_ofNat_Int, Int.reduceLT, Int.reduceLE, Int.le_refl, Int.reduceBEq, Int.reduceEq, bE, Int.reduceToNat, D.size, D.sizeL, sub_agt, sub_agf, sub_sc, sub_ls, isAg_ag, isAg_sc, isAg_ls, List.getD_cons_zero, List.getD_cons_succ, List.drop_zero, List.take_succ_cons, List.take_zero, List.drop_succ_cons, modeOf, noPtrs, lM, go_sem, ↓reduceIte, Nat.reduceEqDiff, Nat.reduceAdd, Nat.reduceLeDiff, Nat.reduceMul, Nat.reduceBEq, Nat.reduceBneDiff, Nat.reduceLT, Nat.reduceSub, iL, iN]
     exact ⟨by first | (simp only [ByteArray.size_append, bsz, List.size_toArray, lK, lZ]; omega) | omega, by first | (simp only [ByteArray.size_append, bsz, List.size_toArray, lK, lZ]; omega) | omega, D.Le.sc_eq (by rw [hd, app_e])⟩
  ·simp +contextual -implicitDefEqProofs only [eSt, eS, eI, eB, eT, Int.cast_ofNat_Int, Int.reduceLT, Int.reduceLE, Int.le_refl, Int.reduceBEq, Int.reduceEq, bE, Int.reduceToNat, D.size, D.sizeL, sub_agt, sub_agf, sub_sc, sub_ls, isAg_ag, isAg_sc, isAg_ls, D.at, List.getD_cons_zero, List.getD_cons_succ, List.drop_zero, List.take_succ_cons, List.take_zero, List.drop_succ_cons, modeOf, noPtrs, lM, go_sem, ↓reduceIte, Nat.reduceEqDiff, Nat.reduceAdd, Nat.reduceLeDiff, Nat.reduceMul, Nat.reduceBEq, Nat.reduceBneDiff, Nat.reduceLT, Nat.reduceSub, iL, iN]
   refine ⟨by first | (simp only [ByteArray.size_append, bsz, List.size_toArray, lK, lZ]; omega) | omega, ?_⟩
   rw [show stepT (u, true, (pn, pl), (tn, tl), (an, al)) = joinP (useT u ++ backT true) ⟨#[46]⟩ (pathL pl) ++ dashT pl ++ ⟨#[32]⟩ ++ listT tl ++ ⟨#[32]⟩ ++ listT al ++ ⟨#[10]⟩ from rfl, hue, show backT true = ⟨#[32, 60, 32]⟩ from rfl]
   generalize hH : (⟨#[108, 101, 109, 109, 97, 32]⟩ ++ decB (-1 - u).toNat ++ ⟨#[32, 60, 32]⟩ : ByteArray) = H
   have hzH : H.size ≤ 11 := by
    rw [← hH]
    simp only [ByteArray.size_append, bsz, List.size_toArray, lK, lZ]
    omega
   clear hH
   refine vc_onU (α := Nat) [3, 4, 32, 33, 34, 35, 36, 37, 38, 39, 40, 41, 42, 43, 44, 45, 46, 47, 48, 49, 50, 51, 52, 53, 54] (fun i => [(4, .im none (.sc (.int .i64 i))), (3, .im none (.sc (.string (joinP H ⟨#[46]⟩ ((pathL pl).take i)))))]) (fun i => []) (fun i => i ≤ pl.length) (fun i => pl.length - i) 0 (Ent.to [] (by simp only [go_sem, ↓reduceIte, Nat.reduceEqDiff, Nat.reduceBEq, Nat.reduceBneDiff]; rfl) rfl (by simp) (by rfl) (by simp only [subEnv, go_sem, ↓reduceIte, Nat.reduceEqDiff, Nat.reduceBEq, keep, memN, Bool.or_false, Bool.false_or, Bool.or_self] <;> simp [joinP_nil])) (Nat.zero_le _) ?_
   intro i hi0
   by_cases hi : i < pl.length
   ·have e1 := at_map (f := eI) hi
    have hq := hPx _ (List.getElem_mem hi)
    have hqe : pl[i] = ((pl[i].toNat : Nat) : Int) := by omega
    rw [hqe] at e1
    have dq := decB_size (n := pl[i].toNat)
    have hz := pathL_size (s := H) (l := pl.take i)
    rw [show pathL (pl.take i) = (pathL pl).take i by simp only [pathL, List.map_take], List.length_take] at hz
    have hi2 : i < (pathL pl).length := by simpa [pathL] using hi
    have hge : (pathL pl)[i] = decB pl[i].toNat := by simp [pathL]
    by_cases h0 : 0 < i
    ·have ht := joinP_take (s := H) (sep := ⟨#[46]⟩) hi2 h0
     have h0' : (i : Int) > 0 := by omega
     rw [hge] at ht
     generalize joinP H ⟨#[46]⟩ ((pathL pl).take i) = s at ht hz ⊢
     simp +contextual -implicitDefEqProofs only [hi, h0', e1, eSt, eS, eI, eB, eT, D.put, D.cells, Int.cast_ofNat_Int, Int.reduceLT, Int.reduceLE, Int.le_refl, Int.reduceBEq, Int.reduceEq, bE, Int.reduceToNat, D.size, D.sizeL, sub_agt, sub_agf, sub_sc, sub_ls, isAg_ag, isAg_sc, isAg_ls, List.getD_cons_zero, List.getD_cons_succ, List.drop_zero, List.take_succ_cons, List.take_zero, List.drop_succ_cons, modeOf, noPtrs, lM, go_sem, ↓reduceIte, Nat.reduceEqDiff, Nat.reduceAdd, Nat.reduceLeDiff, Nat.reduceMul, Nat.reduceBEq, Nat.reduceBneDiff, Nat.reduceLT, Nat.reduceSub, iL, iN]
     refine ⟨by first | (simp only [ByteArray.size_append, bsz, List.size_toArray, lK, lZ]; omega) | omega, ?_⟩
     refine callQ_self (ds := [eI (pl[i].toNat : Nat)]) (by rfl) (hc2 pl[i].toNat (by omega)) ?_
     simp +contextual -implicitDefEqProofs only [eSt, eS, eI, eB, eT, D.put, D.cells, Int.cast_ofNat_Int, Int.reduceLT, Int.reduceLE, Int.le_refl, Int.reduceBEq, Int.reduceEq, bE, Int.reduceToNat, D.size, D.sizeL, sub_agt, sub_agf, sub_sc, sub_ls, isAg_ag, isAg_sc, isAg_ls, List.getD_cons_zero, List.getD_cons_succ, List.drop_zero, List.take_succ_cons, List.take_zero, List.drop_succ_cons, modeOf, noPtrs, lM, go_sem, ↓reduceIte, Nat.reduceEqDiff, Nat.reduceAdd, Nat.reduceLeDiff, Nat.reduceMul, Nat.reduceBEq, Nat.reduceBneDiff, Nat.reduceLT, Nat.reduceSub, iL, iN]
     refine ⟨by first | (simp only [ByteArray.size_append, bsz, List.size_toArray, lK, lZ]; omega) | omega, i + 1, by omega, by omega, ?_⟩
     rw [wrap_i64 (by omega) (by omega)]
     exact Ent.to [] (by simp only [go_sem, ↓reduceIte, Nat.reduceEqDiff, Nat.reduceBEq, Nat.reduceBneDiff]; rfl) rfl (by simp) (by rfl) (by simp only [subEnv, go_sem, ↓reduceIte, Nat.reduceEqDiff, Nat.reduceBEq, keep, memN, Bool.or_false, Bool.false_or, Bool.or_self] <;> simp [ht])
    ·have ht := joinP_takeZ (s := H) (sep := ⟨#[46]⟩) hi2 h0
     have h0' : ¬ (i : Int) > 0 := by omega
     rw [hge] at ht
     generalize joinP H ⟨#[46]⟩ ((pathL pl).take i) = s at ht hz ⊢
     simp +contextual -implicitDefEqProofs only [hi, h0', e1, eSt, eS, eI, eB, eT, D.put, D.cells, Int.cast_ofNat_Int, Int.reduceLT, Int.reduceLE, Int.le_refl, Int.reduceBEq, Int.reduceEq, bE, Int.reduceToNat, D.size, D.sizeL, sub_agt, sub_agf, sub_sc, sub_ls, isAg_ag, isAg_sc, isAg_ls, List.getD_cons_zero, List.getD_cons_succ, List.drop_zero, List.take_succ_cons, List.take_zero, List.drop_succ_cons, modeOf, noPtrs, lM, go_sem, ↓reduceIte, Nat.reduceEqDiff, Nat.reduceAdd, Nat.reduceLeDiff, Nat.reduceMul, Nat.reduceBEq, Nat.reduceBneDiff, Nat.reduceLT, Nat.reduceSub, iL, iN]
     refine callQ_self (ds := [eI (pl[i].toNat : Nat)]) (by rfl) (hc2 pl[i].toNat (by omega)) ?_
     simp +contextual -implicitDefEqProofs only [eSt, eS, eI, eB, eT, D.put, D.cells, Int.cast_ofNat_Int, Int.reduceLT, Int.reduceLE, Int.le_refl, Int.reduceBEq, Int.reduceEq, bE, Int.reduceToNat, D.size, D.sizeL, sub_agt, sub_agf, sub_sc, sub_ls, isAg_ag, isAg_sc, isAg_ls, List.getD_cons_zero, List.getD_cons_succ, List.drop_zero, List.take_succ_cons, List.take_zero, List.drop_succ_cons, modeOf, noPtrs, lM, go_sem, ↓reduceIte, Nat.reduceEqDiff, Nat.reduceAdd, Nat.reduceLeDiff, Nat.reduceMul, Nat.reduceBEq, Nat.reduceBneDiff, Nat.reduceLT, Nat.reduceSub, iL, iN]
     refine ⟨by first | (simp only [ByteArray.size_append, bsz, List.size_toArray, lK, lZ]; omega) | omega, i + 1, by omega, by omega, ?_⟩
     rw [wrap_i64 (by omega) (by omega)]
     exact Ent.to [] (by simp only [go_sem, ↓reduceIte, Nat.reduceEqDiff, Nat.reduceBEq, Nat.reduceBneDiff]; rfl) rfl (by simp) (by rfl) (by simp only [subEnv, go_sem, ↓reduceIte, Nat.reduceEqDiff, Nat.reduceBEq, keep, memN, Bool.or_false, Bool.false_or, Bool.or_self] <;> simp [ht])
   ·obtain rfl : i = pl.length := by omega
    have hz := pathL_size (s := H) (l := pl)
    rw [List.take_of_length_le (by simp [pathL])]
    have l1 := listT_size hg (by omega) hTx
    have l2 := listT_size hg hAl hAx
    generalize joinP H ⟨#[46]⟩ (pathL pl) = Q at hz ⊢
    by_cases hp0 : pl.length = 0
    ·have hd : dashT pl = ⟨#[45]⟩ := by
      have : pl = [] := List.eq_nil_of_length_eq_zero hp0
      subst this; rfl
     have hpe : ((pl.length : Int) == 0) = true := by simp [hp0]
     simp +contextual -implicitDefEqProofs only [hi, hpe, eSt, eS, eI, eB, eT, D.put, D.cells, Int.cast_ofNat_Int, Int.reduceLT, Int.reduceLE, Int.le_refl, Int.reduceBEq, Int.reduceEq, bE, Int.reduceToNat, D.size, D.sizeL, sub_agt, sub_agf, sub_sc, sub_ls, isAg_ag, isAg_sc, isAg_ls, List.getD_cons_zero, List.getD_cons_succ, List.drop_zero, List.take_succ_cons, List.take_zero, List.drop_succ_cons, modeOf, noPtrs, lM, go_sem, ↓reduceIte, Nat.reduceEqDiff, Nat.reduceAdd, Nat.reduceLeDiff, Nat.reduceMul, Nat.reduceBEq, Nat.reduceBneDiff, Nat.reduceLT, Nat.reduceSub, iL, iN]
     refine ⟨by first | (simp only [ByteArray.size_append, bsz, List.size_toArray, lK, lZ]; omega) | omega, by first | (simp only [ByteArray.size_append, bsz, List.size_toArray, lK, lZ]; omega) | omega, callQ_self (ds := [eS 3 eE (tn, tl)]) (by rfl) (hc3 g0 hg (tn, tl) (by show tl.length ≤ 4; omega) hTx) ?_⟩
     simp +contextual -implicitDefEqProofs only [eSt, eS, eI, eB, eT, D.put, D.cells, Int.cast_ofNat_Int, Int.reduceLT, Int.reduceLE, Int.le_refl, Int.reduceBEq, Int.reduceEq, bE, Int.reduceToNat, D.size, D.sizeL, sub_agt, sub_agf, sub_sc, sub_ls, isAg_ag, isAg_sc, isAg_ls, List.getD_cons_zero, List.getD_cons_succ, List.drop_zero, List.take_succ_cons, List.take_zero, List.drop_succ_cons, modeOf, noPtrs, lM, go_sem, ↓reduceIte, Nat.reduceEqDiff, Nat.reduceAdd, Nat.reduceLeDiff, Nat.reduceMul, Nat.reduceBEq, Nat.reduceBneDiff, Nat.reduceLT, Nat.reduceSub, iL, iN]
     refine ⟨by first | (simp only [ByteArray.size_append, bsz, List.size_toArray, lK, lZ]; omega) | omega, by first | (simp only [ByteArray.size_append, bsz, List.size_toArray, lK, lZ]; omega) | omega, callQ_self (ds := [eS 3 eE (an, al)]) (by rfl) (hc3 g0 hg (an, al) hAl hAx) ?_⟩
     simp +contextual -implicitDefEqProofs only [eSt, eS, eI, eB, eT, D.put, D.cells, Int.cast_ofNat_Int, Int.reduceLT, Int.reduceLE, Int.le_refl, Int.reduceBEq, Int.reduceEq, bE, Int.reduceToNat, D.size, D.sizeL, sub_agt, sub_agf, sub_sc, sub_ls, isAg_ag, isAg_sc, isAg_ls, List.getD_cons_zero, List.getD_cons_succ, List.drop_zero, List.take_succ_cons, List.take_zero, List.drop_succ_cons, modeOf, noPtrs, lM, go_sem, ↓reduceIte, Nat.reduceEqDiff, Nat.reduceAdd, Nat.reduceLeDiff, Nat.reduceMul, Nat.reduceBEq, Nat.reduceBneDiff, Nat.reduceLT, Nat.reduceSub, iL, iN]
     exact ⟨by first | (simp only [ByteArray.size_append, bsz, List.size_toArray, lK, lZ]; omega) | omega, by first | (simp only [ByteArray.size_append, bsz, List.size_toArray, lK, lZ]; omega) | omega, D.Le.sc_eq (by rw [hd])⟩
    ·have hd : dashT pl = ⟨#[]⟩ := by
      cases pl with
      | nil => exact absurd rfl hp0
      | cons y r => rfl
     have hpe : ((pl.length : Int) == 0) = false := by simp; exact fun e => hp0 (by rw [e]; rfl)
     simp +contextual -implicitDefEqProofs only [hi, hpe, eSt, eS, eI, eB, eT, D.put, D.cells, Int.cast_ofNat_Int, Int.reduceLT, Int.reduceLE, Int.le_refl, Int.reduceBEq, Int.reduceEq, bE, Int.reduceToNat, D.size, D.sizeL, sub_agt, sub_agf, sub_sc, sub_ls, isAg_ag, isAg_sc, isAg_ls, List.getD_cons_zero, List.getD_cons_succ, List.drop_zero, List.take_succ_cons, List.take_zero, List.drop_succ_cons, modeOf, noPtrs, lM, go_sem, ↓reduceIte, Nat.reduceEqDiff, Nat.reduceAdd, Nat.reduceLeDiff, Nat.reduceMul, Nat.reduceBEq, Nat.reduceBneDiff, Nat.reduceLT, Nat.reduceSub, iL, iN]
     refine ⟨by first | (simp only [ByteArray.size_append, bsz, List.size_toArray, lK, lZ]; omega) | omega, callQ_self (ds := [eS 3 eE (tn, tl)]) (by rfl) (hc3 g0 hg (tn, tl) (by show tl.length ≤ 4; omega) hTx) ?_⟩
     simp +contextual -implicitDefEqProofs only [eSt, eS, eI, eB, eT, D.put, D.cells, Int.cast_ofNat_Int, Int.reduceLT, Int.reduceLE, Int.le_refl, Int.reduceBEq, Int.reduceEq, bE, Int.reduceToNat, D.size, D.sizeL, sub_agt, sub_agf, sub_sc, sub_ls, isAg_ag, isAg_sc, isAg_ls, List.getD_cons_zero, List.getD_cons_succ, List.drop_zero, List.take_succ_cons, List.take_zero, List.drop_succ_cons, modeOf, noPtrs, lM, go_sem, ↓reduceIte, Nat.reduceEqDiff, Nat.reduceAdd, Nat.reduceLeDiff, Nat.reduceMul, Nat.reduceBEq, Nat.reduceBneDiff, Nat.reduceLT, Nat.reduceSub, iL, iN]
     refine ⟨by first | (simp only [ByteArray.size_append, bsz, List.size_toArray, lK, lZ]; omega) | omega, by first | (simp only [ByteArray.size_append, bsz, List.size_toArray, lK, lZ]; omega) | omega, callQ_self (ds := [eS 3 eE (an, al)]) (by rfl) (hc3 g0 hg (an, al) hAl hAx) ?_⟩
     simp +contextual -implicitDefEqProofs only [eSt, eS, eI, eB, eT, D.put, D.cells, Int.cast_ofNat_Int, Int.reduceLT, Int.reduceLE, Int.le_refl, Int.reduceBEq, Int.reduceEq, bE, Int.reduceToNat, D.size, D.sizeL, sub_agt, sub_agf, sub_sc, sub_ls, isAg_ag, isAg_sc, isAg_ls, List.getD_cons_zero, List.getD_cons_succ, List.drop_zero, List.take_succ_cons, List.take_zero, List.drop_succ_cons, modeOf, noPtrs, lM, go_sem, ↓reduceIte, Nat.reduceEqDiff, Nat.reduceAdd, Nat.reduceLeDiff, Nat.reduceMul, Nat.reduceBEq, Nat.reduceBneDiff, Nat.reduceLT, Nat.reduceSub, iL, iN]
     exact ⟨by first | (simp only [ByteArray.size_append, bsz, List.size_toArray, lK, lZ]; omega) | omega, by first | (simp only [ByteArray.size_append, bsz, List.size_toArray, lK, lZ]; omega) | omega, D.Le.sc_eq (by rw [hd, app_e])⟩
 ·have hue : useT u = ⟨#[97, 120, 105, 111, 109, 32]⟩ ++ decB u.toNat := by simp only [useT, hu, if_false]
  simp +contextual -implicitDefEqProofs only [hu, eSt, eS, eI, eB, eT, Int.cast_ofNat_Int, Int.reduceLT, Int.reduceLE, Int.le_refl, Int.reduceBEq, Int.reduceEq, bE, Int.reduceToNat, D.size, D.sizeL, sub_agt, sub_agf, sub_sc, sub_ls, isAg_ag, isAg_sc, isAg_ls, D.at, List.getD_cons_zero, List.getD_cons_succ, List.drop_zero, List.take_succ_cons, List.take_zero, List.drop_succ_cons, modeOf, noPtrs, lM, go_sem, ↓reduceIte, Nat.reduceEqDiff, Nat.reduceAdd, Nat.reduceLeDiff, Nat.reduceMul, Nat.reduceBEq, Nat.reduceBneDiff, Nat.reduceLT, Nat.reduceSub, iL, iN]
  cases bk
  ·simp +contextual -implicitDefEqProofs only [eSt, eS, eI, eB, eT, Int.cast_ofNat_Int, Int.reduceLT, Int.reduceLE, Int.le_refl, Int.reduceBEq, Int.reduceEq, bE, Int.reduceToNat, D.size, D.sizeL, sub_agt, sub_agf, sub_sc, sub_ls, isAg_ag, isAg_sc, isAg_ls, D.at, List.getD_cons_zero, List.getD_cons_succ, List.drop_zero, List.take_succ_cons, List.take_zero, List.drop_succ_cons, modeOf, noPtrs, lM, go_sem, ↓reduceIte, Nat.reduceEqDiff, Nat.reduceAdd, Nat.reduceLeDiff, Nat.reduceMul, Nat.reduceBEq, Nat.reduceBneDiff, Nat.reduceLT, Nat.reduceSub, iL, iN]
   refine ⟨by first | (simp only [ByteArray.size_append, bsz, List.size_toArray, lK, lZ]; omega) | omega, ?_⟩
   rw [show stepT (u, false, (pn, pl), (tn, tl), (an, al)) = joinP (useT u ++ backT false) ⟨#[46]⟩ (pathL pl) ++ dashT pl ++ ⟨#[32]⟩ ++ listT tl ++ ⟨#[32]⟩ ++ listT al ++ ⟨#[10]⟩ from rfl, hue, show backT false = ⟨#[32, 62, 32]⟩ from rfl]
   generalize hH : (⟨#[97, 120, 105, 111, 109, 32]⟩ ++ decB u.toNat ++ ⟨#[32, 62, 32]⟩ : ByteArray) = H
   have hzH : H.size ≤ 11 := by
    rw [← hH]
    simp only [ByteArray.size_append, bsz, List.size_toArray, lK, lZ]
    omega
   clear hH
   refine vc_onU (α := Nat) [3, 4, 32, 33, 34, 35, 36, 37, 38, 39, 40, 41, 42, 43, 44, 45, 46, 47, 48, 49, 50, 51, 52, 53, 54] (fun i => [(4, .im none (.sc (.int .i64 i))), (3, .im none (.sc (.string (joinP H ⟨#[46]⟩ ((pathL pl).take i)))))]) (fun i => []) (fun i => i ≤ pl.length) (fun i => pl.length - i) 0 (Ent.to [] (by simp only [go_sem, ↓reduceIte, Nat.reduceEqDiff, Nat.reduceBEq, Nat.reduceBneDiff]; rfl) rfl (by simp) (by rfl) (by simp only [subEnv, go_sem, ↓reduceIte, Nat.reduceEqDiff, Nat.reduceBEq, keep, memN, Bool.or_false, Bool.false_or, Bool.or_self] <;> simp [joinP_nil])) (Nat.zero_le _) ?_
   intro i hi0
   by_cases hi : i < pl.length
   ·have e1 := at_map (f := eI) hi
    have hq := hPx _ (List.getElem_mem hi)
    have hqe : pl[i] = ((pl[i].toNat : Nat) : Int) := by omega
    rw [hqe] at e1
    have dq := decB_size (n := pl[i].toNat)
    have hz := pathL_size (s := H) (l := pl.take i)
    rw [show pathL (pl.take i) = (pathL pl).take i by simp only [pathL, List.map_take], List.length_take] at hz
    have hi2 : i < (pathL pl).length := by simpa [pathL] using hi
    have hge : (pathL pl)[i] = decB pl[i].toNat := by simp [pathL]
    by_cases h0 : 0 < i
    ·have ht := joinP_take (s := H) (sep := ⟨#[46]⟩) hi2 h0
     have h0' : (i : Int) > 0 := by omega
     rw [hge] at ht
     generalize joinP H ⟨#[46]⟩ ((pathL pl).take i) = s at ht hz ⊢
     simp +contextual -implicitDefEqProofs only [hi, h0', e1, eSt, eS, eI, eB, eT, D.put, D.cells, Int.cast_ofNat_Int, Int.reduceLT, Int.reduceLE, Int.le_refl, Int.reduceBEq, Int.reduceEq, bE, Int.reduceToNat, D.size, D.sizeL, sub_agt, sub_agf, sub_sc, sub_ls, isAg_ag, isAg_sc, isAg_ls, List.getD_cons_zero, List.getD_cons_succ, List.drop_zero, List.take_succ_cons, List.take_zero, List.drop_succ_cons, modeOf, noPtrs, lM, go_sem, ↓reduceIte, Nat.reduceEqDiff, Nat.reduceAdd, Nat.reduceLeDiff, Nat.reduceMul, Nat.reduceBEq, Nat.reduceBneDiff, Nat.reduceLT, Nat.reduceSub, iL, iN]
     refine ⟨by first | (simp only [ByteArray.size_append, bsz, List.size_toArray, lK, lZ]; omega) | omega, ?_⟩
     refine callQ_self (ds := [eI (pl[i].toNat : Nat)]) (by rfl) (hc2 pl[i].toNat (by omega)) ?_
     simp +contextual -implicitDefEqProofs only [eSt, eS, eI, eB, eT, D.put, D.cells, Int.cast_ofNat_Int, Int.reduceLT, Int.reduceLE, Int.le_refl, Int.reduceBEq, Int.reduceEq, bE, Int.reduceToNat, D.size, D.sizeL, sub_agt, sub_agf, sub_sc, sub_ls, isAg_ag, isAg_sc, isAg_ls, List.getD_cons_zero, List.getD_cons_succ, List.drop_zero, List.take_succ_cons, List.take_zero, List.drop_succ_cons, modeOf, noPtrs, lM, go_sem, ↓reduceIte, Nat.reduceEqDiff, Nat.reduceAdd, Nat.reduceLeDiff, Nat.reduceMul, Nat.reduceBEq, Nat.reduceBneDiff, Nat.reduceLT, Nat.reduceSub, iL, iN]
     refine ⟨by first | (simp only [ByteArray.size_append, bsz, List.size_toArray, lK, lZ]; omega) | omega, i + 1, by omega, by omega, ?_⟩
     rw [wrap_i64 (by omega) (by omega)]
     exact Ent.to [] (by simp only [go_sem, ↓reduceIte, Nat.reduceEqDiff, Nat.reduceBEq, Nat.reduceBneDiff]; rfl) rfl (by simp) (by rfl) (by simp only [subEnv, go_sem, ↓reduceIte, Nat.reduceEqDiff, Nat.reduceBEq, keep, memN, Bool.or_false, Bool.false_or, Bool.or_self] <;> simp [ht])
    ·have ht := joinP_takeZ (s := H) (sep := ⟨#[46]⟩) hi2 h0
     have h0' : ¬ (i : Int) > 0 := by omega
     rw [hge] at ht
     generalize joinP H ⟨#[46]⟩ ((pathL pl).take i) = s at ht hz ⊢
     simp +contextual -implicitDefEqProofs only [hi, h0', e1, eSt, eS, eI, eB, eT, D.put, D.cells, Int.cast_ofNat_Int, Int.reduceLT, Int.reduceLE, Int.le_refl, Int.reduceBEq, Int.reduceEq, bE, Int.reduceToNat, D.size, D.sizeL, sub_agt, sub_agf, sub_sc, sub_ls, isAg_ag, isAg_sc, isAg_ls, List.getD_cons_zero, List.getD_cons_succ, List.drop_zero, List.take_succ_cons, List.take_zero, List.drop_succ_cons, modeOf, noPtrs, lM, go_sem, ↓reduceIte, Nat.reduceEqDiff, Nat.reduceAdd, Nat.reduceLeDiff, Nat.reduceMul, Nat.reduceBEq, Nat.reduceBneDiff, Nat.reduceLT, Nat.reduceSub, iL, iN]
     refine callQ_self (ds := [eI (pl[i].toNat : Nat)]) (by rfl) (hc2 pl[i].toNat (by omega)) ?_
     simp +contextual -implicitDefEqProofs only [eSt, eS, eI, eB, eT, D.put, D.cells, Int.cast_ofNat_Int, Int.reduceLT, Int.reduceLE, Int.le_refl, Int.reduceBEq, Int.reduceEq, bE, Int.reduceToNat, D.size, D.sizeL, sub_agt, sub_agf, sub_sc, sub_ls, isAg_ag, isAg_sc, isAg_ls, List.getD_cons_zero, List.getD_cons_succ, List.drop_zero, List.take_succ_cons, List.take_zero, List.drop_succ_cons, modeOf, noPtrs, lM, go_sem, ↓reduceIte, Nat.reduceEqDiff, Nat.reduceAdd, Nat.reduceLeDiff, Nat.reduceMul, Nat.reduceBEq, Nat.reduceBneDiff, Nat.reduceLT, Nat.reduceSub, iL, iN]
     refine ⟨by first | (simp only [ByteArray.size_append, bsz, List.size_toArray, lK, lZ]; omega) | omega, i + 1, by omega, by omega, ?_⟩
     rw [wrap_i64 (by omega) (by omega)]
     exact Ent.to [] (by simp only [go_sem, ↓reduceIte, Nat.reduceEqDiff, Nat.reduceBEq, Nat.reduceBneDiff]; rfl) rfl (by simp) (by rfl) (by simp only [subEnv, go_sem, ↓reduceIte, Nat.reduceEqDiff, Nat.reduceBEq, keep, memN, Bool.or_false, Bool.false_or, Bool.or_self] <;> simp [ht])
   ·obtain rfl : i = pl.length := by omega
    have hz := pathL_size (s := H) (l := pl)
    rw [List.take_of_length_le (by simp [pathL])]
    have l1 := listT_size hg (by omega) hTx
    have l2 := listT_size hg hAl hAx
    generalize joinP H ⟨#[46]⟩ (pathL pl) = Q at hz ⊢
    by_cases hp0 : pl.length = 0
    ·have hd : dashT pl = ⟨#[45]⟩ := by
      have : pl = [] := List.eq_nil_of_length_eq_zero hp0
      subst this; rfl
     have hpe : ((pl.length : Int) == 0) = true := by simp [hp0]
     simp +contextual -implicitDefEqProofs only [hi, hpe, eSt, eS, eI, eB, eT, D.put, D.cells, Int.cast_ofNat_Int, Int.reduceLT, Int.reduceLE, Int.le_refl, Int.reduceBEq, Int.reduceEq, bE, Int.reduceToNat, D.size, D.sizeL, sub_agt, sub_agf, sub_sc, sub_ls, isAg_ag, isAg_sc, isAg_ls, List.getD_cons_zero, List.getD_cons_succ, List.drop_zero, List.take_succ_cons, List.take_zero, List.drop_succ_cons, modeOf, noPtrs, lM, go_sem, ↓reduceIte, Nat.reduceEqDiff, Nat.reduceAdd, Nat.reduceLeDiff, Nat.reduceMul, Nat.reduceBEq, Nat.reduceBneDiff, Nat.reduceLT, Nat.reduceSub, iL, iN]
     refine ⟨by first | (simp only [ByteArray.size_append, bsz, List.size_toArray, lK, lZ]; omega) | omega, by first | (simp only [ByteArray.size_append, bsz, List.size_toArray, lK, lZ]; omega) | omega, callQ_self (ds := [eS 3 eE (tn, tl)]) (by rfl) (hc3 g0 hg (tn, tl) (by show tl.length ≤ 4; omega) hTx) ?_⟩
     simp +contextual -implicitDefEqProofs only [eSt, eS, eI, eB, eT, D.put, D.cells, Int.cast_ofNat_Int, Int.reduceLT, Int.reduceLE, Int.le_refl, Int.reduceBEq, Int.reduceEq, bE, Int.reduceToNat, D.size, D.sizeL, sub_agt, sub_agf, sub_sc, sub_ls, isAg_ag, isAg_sc, isAg_ls, List.getD_cons_zero, List.getD_cons_succ, List.drop_zero, List.take_succ_cons, List.take_zero, List.drop_succ_cons, modeOf, noPtrs, lM, go_sem, ↓reduceIte, Nat.reduceEqDiff, Nat.reduceAdd, Nat.reduceLeDiff, Nat.reduceMul, Nat.reduceBEq, Nat.reduceBneDiff, Nat.reduceLT, Nat.reduceSub, iL, iN]
     refine ⟨by first | (simp only [ByteArray.size_append, bsz, List.size_toArray, lK, lZ]; omega) | omega, by first | (simp only [ByteArray.size_append, bsz, List.size_toArray, lK, lZ]; omega) | omega, callQ_self (ds := [eS 3 eE (an, al)]) (by rfl) (hc3 g0 hg (an, al) hAl hAx) ?_⟩
     simp +contextual -implicitDefEqProofs only [eSt, eS, eI, eB, eT, D.put, D.cells, Int.cast_ofNat_Int, Int.reduceLT, Int.reduceLE, Int.le_refl, Int.reduceBEq, Int.reduceEq, bE, Int.reduceToNat, D.size, D.sizeL, sub_agt, sub_agf, sub_sc, sub_ls, isAg_ag, isAg_sc, isAg_ls, List.getD_cons_zero, List.getD_cons_succ, List.drop_zero, List.take_succ_cons, List.take_zero, List.drop_succ_cons, modeOf, noPtrs, lM, go_sem, ↓reduceIte, Nat.reduceEqDiff, Nat.reduceAdd, Nat.reduceLeDiff, Nat.reduceMul, Nat.reduceBEq, Nat.reduceBneDiff, Nat.reduceLT, Nat.reduceSub, iL, iN]
     exact ⟨by first | (simp only [ByteArray.size_append, bsz, List.size_toArray, lK, lZ]; omega) | omega, by first | (simp only [ByteArray.size_append, bsz, List.size_toArray, lK, lZ]; omega) | omega, D.Le.sc_eq (by rw [hd])⟩
    ·have hd : dashT pl = ⟨#[]⟩ := by
      cases pl with
      | nil => exact absurd rfl hp0
      | cons y r => rfl
     have hpe : ((pl.length : Int) == 0) = false := by simp; exact fun e => hp0 (by rw [e]; rfl)
     simp +contextual -implicitDefEqProofs only [hi, hpe, eSt, eS, eI, eB, eT, D.put, D.cells, Int.cast_ofNat_Int, Int.reduceLT, Int.reduceLE, Int.le_refl, Int.reduceBEq, Int.reduceEq, bE, Int.reduceToNat, D.size, D.sizeL, sub_agt, sub_agf, sub_sc, sub_ls, isAg_ag, isAg_sc, isAg_ls, List.getD_cons_zero, List.getD_cons_succ, List.drop_zero, List.take_succ_cons, List.take_zero, List.drop_succ_cons, modeOf, noPtrs, lM, go_sem, ↓reduceIte, Nat.reduceEqDiff, Nat.reduceAdd, Nat.reduceLeDiff, Nat.reduceMul, Nat.reduceBEq, Nat.reduceBneDiff, Nat.reduceLT, Nat.reduceSub, iL, iN]
     refine ⟨by first | (simp only [ByteArray.size_append, bsz, List.size_toArray, lK, lZ]; omega) | omega, callQ_self (ds := [eS 3 eE (tn, tl)]) (by rfl) (hc3 g0 hg (tn, tl) (by show tl.length ≤ 4; omega) hTx) ?_⟩
     simp +contextual -implicitDefEqProofs only [eSt, eS, eI, eB, eT, D.put, D.cells, Int.cast_ofNat_Int, Int.reduceLT, Int.reduceLE, Int.le_refl, Int.reduceBEq, Int.reduceEq, bE, Int.reduceToNat, D.size, D.sizeL, sub_agt, sub_agf, sub_sc, sub_ls, isAg_ag, isAg_sc, isAg_ls, List.getD_cons_zero, List.getD_cons_succ, List.drop_zero, List.take_succ_cons, List.take_zero, List.drop_succ_cons, modeOf, noPtrs, lM, go_sem, ↓reduceIte, Nat.reduceEqDiff, Nat.reduceAdd, Nat.reduceLeDiff, Nat.reduceMul, Nat.reduceBEq, Nat.reduceBneDiff, Nat.reduceLT, Nat.reduceSub, iL, iN]
     refine ⟨by first | (simp only [ByteArray.size_append, bsz, List.size_toArray, lK, lZ]; omega) | omega, by first | (simp only [ByteArray.size_append, bsz, List.size_toArray, lK, lZ]; omega) | omega, callQ_self (ds := [eS 3 eE (an, al)]) (by rfl) (hc3 g0 hg (an, al) hAl hAx) ?_⟩
     simp +contextual -implicitDefEqProofs only [eSt, eS, eI, eB, eT, D.put, D.cells, Int.cast_ofNat_Int, Int.reduceLT, Int.reduceLE, Int.le_refl, Int.reduceBEq, Int.reduceEq, bE, Int.reduceToNat, D.size, D.sizeL, sub_agt, sub_agf, sub_sc, sub_ls, isAg_ag, isAg_sc, isAg_ls, List.getD_cons_zero, List.getD_cons_succ, List.drop_zero, List.take_succ_cons, List.take_zero, List.drop_succ_cons, modeOf, noPtrs, lM, go_sem, ↓reduceIte, Nat.reduceEqDiff, Nat.reduceAdd, Nat.reduceLeDiff, Nat.reduceMul, Nat.reduceBEq, Nat.reduceBneDiff, Nat.reduceLT, Nat.reduceSub, iL, iN]
     exact ⟨by first | (simp only [ByteArray.size_append, bsz, List.size_toArray, lK, lZ]; omega) | omega, by first | (simp only [ByteArray.size_append, bsz, List.size_toArray, lK, lZ]; omega) | omega, D.Le.sc_eq (by rw [hd, app_e])⟩
  ·simp +contextual -implicitDefEqProofs only [eSt, eS, eI, eB, eT, Int.cast_ofNat_Int, Int.reduceLT, Int.reduceLE, Int.le_refl, Int.reduceBEq, Int.reduceEq, bE, Int.reduceToNat, D.size, D.sizeL, sub_agt, sub_agf, sub_sc, sub_ls, isAg_ag, isAg_sc, isAg_ls, D.at, List.getD_cons_zero, List.getD_cons_succ, List.drop_zero, List.take_succ_cons, List.take_zero, List.drop_succ_cons, modeOf, noPtrs, lM, go_sem, ↓reduceIte, Nat.reduceEqDiff, Nat.reduceAdd, Nat.reduceLeDiff, Nat.reduceMul, Nat.reduceBEq, Nat.reduceBneDiff, Nat.reduceLT, Nat.reduceSub, iL, iN]
   refine ⟨by first | (simp only [ByteArray.size_append, bsz, List.size_toArray, lK, lZ]; omega) | omega, ?_⟩
   rw [show stepT (u, true, (pn, pl), (tn, tl), (an, al)) = joinP (useT u ++ backT true) ⟨#[46]⟩ (pathL pl) ++ dashT pl ++ ⟨#[32]⟩ ++ listT tl ++ ⟨#[32]⟩ ++ listT al ++ ⟨#[10]⟩ from rfl, hue, show backT true = ⟨#[32, 60, 32]⟩ from rfl]
   generalize hH : (⟨#[97, 120, 105, 111, 109, 32]⟩ ++ decB u.toNat ++ ⟨#[32, 60, 32]⟩ : ByteArray) = H
   have hzH : H.size ≤ 11 := by
    rw [← hH]
    simp only [ByteArray.size_append, bsz, List.size_toArray, lK, lZ]
    omega
   clear hH
   refine vc_onU (α := Nat) [3, 4, 32, 33, 34, 35, 36, 37, 38, 39, 40, 41, 42, 43, 44, 45, 46, 47, 48, 49, 50, 51, 52, 53, 54] (fun i => [(4, .im none (.sc (.int .i64 i))), (3, .im none (.sc (.string (joinP H ⟨#[46]⟩ ((pathL pl).take i)))))]) (fun i => []) (fun i => i ≤ pl.length) (fun i => pl.length - i) 0 (Ent.to [] (by simp only [go_sem, ↓reduceIte, Nat.reduceEqDiff, Nat.reduceBEq, Nat.reduceBneDiff]; rfl) rfl (by simp) (by rfl) (by simp only [subEnv, go_sem, ↓reduceIte, Nat.reduceEqDiff, Nat.reduceBEq, keep, memN, Bool.or_false, Bool.false_or, Bool.or_self] <;> simp [joinP_nil])) (Nat.zero_le _) ?_
   intro i hi0
   by_cases hi : i < pl.length
   ·have e1 := at_map (f := eI) hi
    have hq := hPx _ (List.getElem_mem hi)
    have hqe : pl[i] = ((pl[i].toNat : Nat) : Int) := by omega
    rw [hqe] at e1
    have dq := decB_size (n := pl[i].toNat)
    have hz := pathL_size (s := H) (l := pl.take i)
    rw [show pathL (pl.take i) = (pathL pl).take i by simp only [pathL, List.map_take], List.length_take] at hz
    have hi2 : i < (pathL pl).length := by simpa [pathL] using hi
    have hge : (pathL pl)[i] = decB pl[i].toNat := by simp [pathL]
    by_cases h0 : 0 < i
    ·have ht := joinP_take (s := H) (sep := ⟨#[46]⟩) hi2 h0
     have h0' : (i : Int) > 0 := by omega
     rw [hge] at ht
     generalize joinP H ⟨#[46]⟩ ((pathL pl).take i) = s at ht hz ⊢
     simp +contextual -implicitDefEqProofs only [hi, h0', e1, eSt, eS, eI, eB, eT, D.put, D.cells, Int.cast_ofNat_Int, Int.reduceLT, Int.reduceLE, Int.le_refl, Int.reduceBEq, Int.reduceEq, bE, Int.reduceToNat, D.size, D.sizeL, sub_agt, sub_agf, sub_sc, sub_ls, isAg_ag, isAg_sc, isAg_ls, List.getD_cons_zero, List.getD_cons_succ, List.drop_zero, List.take_succ_cons, List.take_zero, List.drop_succ_cons, modeOf, noPtrs, lM, go_sem, ↓reduceIte, Nat.reduceEqDiff, Nat.reduceAdd, Nat.reduceLeDiff, Nat.reduceMul, Nat.reduceBEq, Nat.reduceBneDiff, Nat.reduceLT, Nat.reduceSub, iL, iN]
     refine ⟨by first | (simp only [ByteArray.size_append, bsz, List.size_toArray, lK, lZ]; omega) | omega, ?_⟩
     refine callQ_self (ds := [eI (pl[i].toNat : Nat)]) (by rfl) (hc2 pl[i].toNat (by omega)) ?_
     simp +contextual -implicitDefEqProofs only [eSt, eS, eI, eB, eT, D.put, D.cells, Int.cast_ofNat_Int, Int.reduceLT, Int.reduceLE, Int.le_refl, Int.reduceBEq, Int.reduceEq, bE, Int.reduceToNat, D.size, D.sizeL, sub_agt, sub_agf, sub_sc, sub_ls, isAg_ag, isAg_sc, isAg_ls, List.getD_cons_zero, List.getD_cons_succ, List.drop_zero, List.take_succ_cons, List.take_zero, List.drop_succ_cons, modeOf, noPtrs, lM, go_sem, ↓reduceIte, Nat.reduceEqDiff, Nat.reduceAdd, Nat.reduceLeDiff, Nat.reduceMul, Nat.reduceBEq, Nat.reduceBneDiff, Nat.reduceLT, Nat.reduceSub, iL, iN]
     refine ⟨by first | (simp only [ByteArray.size_append, bsz, List.size_toArray, lK, lZ]; omega) | omega, i + 1, by omega, by omega, ?_⟩
     rw [wrap_i64 (by omega) (by omega)]
     exact Ent.to [] (by simp only [go_sem, ↓reduceIte, Nat.reduceEqDiff, Nat.reduceBEq, Nat.reduceBneDiff]; rfl) rfl (by simp) (by rfl) (by simp only [subEnv, go_sem, ↓reduceIte, Nat.reduceEqDiff, Nat.reduceBEq, keep, memN, Bool.or_false, Bool.false_or, Bool.or_self] <;> simp [ht])
    ·have ht := joinP_takeZ (s := H) (sep := ⟨#[46]⟩) hi2 h0
     have h0' : ¬ (i : Int) > 0 := by omega
     rw [hge] at ht
     generalize joinP H ⟨#[46]⟩ ((pathL pl).take i) = s at ht hz ⊢
     simp +contextual -implicitDefEqProofs only [hi, h0', e1, eSt, eS, eI, eB, eT, D.put, D.cells, Int.cast_ofNat_Int, Int.reduceLT, Int.reduceLE, Int.le_refl, Int.reduceBEq, Int.reduceEq, bE, Int.reduceToNat, D.size, D.sizeL, sub_agt, sub_agf, sub_sc, sub_ls, isAg_ag, isAg_sc, isAg_ls, List.getD_cons_zero, List.getD_cons_succ, List.drop_zero, List.take_succ_cons, List.take_zero, List.drop_succ_cons, modeOf, noPtrs, lM, go_sem, ↓reduceIte, Nat.reduceEqDiff, Nat.reduceAdd, Nat.reduceLeDiff, Nat.reduceMul, Nat.reduceBEq, Nat.reduceBneDiff, Nat.reduceLT, Nat.reduceSub, iL, iN]
     refine callQ_self (ds := [eI (pl[i].toNat : Nat)]) (by rfl) (hc2 pl[i].toNat (by omega)) ?_
     simp +contextual -implicitDefEqProofs only [eSt, eS, eI, eB, eT, D.put, D.cells, Int.cast_ofNat_Int, Int.reduceLT, Int.reduceLE, Int.le_refl, Int.reduceBEq, Int.reduceEq, bE, Int.reduceToNat, D.size, D.sizeL, sub_agt, sub_agf, sub_sc, sub_ls, isAg_ag, isAg_sc, isAg_ls, List.getD_cons_zero, List.getD_cons_succ, List.drop_zero, List.take_succ_cons, List.take_zero, List.drop_succ_cons, modeOf, noPtrs, lM, go_sem, ↓reduceIte, Nat.reduceEqDiff, Nat.reduceAdd, Nat.reduceLeDiff, Nat.reduceMul, Nat.reduceBEq, Nat.reduceBneDiff, Nat.reduceLT, Nat.reduceSub, iL, iN]
     refine ⟨by first | (simp only [ByteArray.size_append, bsz, List.size_toArray, lK, lZ]; omega) | omega, i + 1, by omega, by omega, ?_⟩
     rw [wrap_i64 (by omega) (by omega)]
     exact Ent.to [] (by simp only [go_sem, ↓reduceIte, Nat.reduceEqDiff, Nat.reduceBEq, Nat.reduceBneDiff]; rfl) rfl (by simp) (by rfl) (by simp only [subEnv, go_sem, ↓reduceIte, Nat.reduceEqDiff, Nat.reduceBEq, keep, memN, Bool.or_false, Bool.false_or, Bool.or_self] <;> simp [ht])
   ·obtain rfl : i = pl.length := by omega
    have hz := pathL_size (s := H) (l := pl)
    rw [List.take_of_length_le (by simp [pathL])]
    have l1 := listT_size hg (by omega) hTx
    have l2 := listT_size hg hAl hAx
    generalize joinP H ⟨#[46]⟩ (pathL pl) = Q at hz ⊢
    by_cases hp0 : pl.length = 0
    ·have hd : dashT pl = ⟨#[45]⟩ := by
      have : pl = [] := List.eq_nil_of_length_eq_zero hp0
      subst this; rfl
     have hpe : ((pl.length : Int) == 0) = true := by simp [hp0]
     simp +contextual -implicitDefEqProofs only [hi, hpe, eSt, eS, eI, eB, eT, D.put, D.cells, Int.cast_ofNat_Int, Int.reduceLT, Int.reduceLE, Int.le_refl, Int.reduceBEq, Int.reduceEq, bE, Int.reduceToNat, D.size, D.sizeL, sub_agt, sub_agf, sub_sc, sub_ls, isAg_ag, isAg_sc, isAg_ls, List.getD_cons_zero, List.getD_cons_succ, List.drop_zero, List.take_succ_cons, List.take_zero, List.drop_succ_cons, modeOf, noPtrs, lM, go_sem, ↓reduceIte, Nat.reduceEqDiff, Nat.reduceAdd, Nat.reduceLeDiff, Nat.reduceMul, Nat.reduceBEq, Nat.reduceBneDiff, Nat.reduceLT, Nat.reduceSub, iL, iN]
     refine ⟨by first | (simp only [ByteArray.size_append, bsz, List.size_toArray, lK, lZ]; omega) | omega, by first | (simp only [ByteArray.size_append, bsz, List.size_toArray, lK, lZ]; omega) | omega, callQ_self (ds := [eS 3 eE (tn, tl)]) (by rfl) (hc3 g0 hg (tn, tl) (by show tl.length ≤ 4; omega) hTx) ?_⟩
     simp +contextual -implicitDefEqProofs only [eSt, eS, eI, eB, eT, D.put, D.cells, Int.cast_ofNat_Int, Int.reduceLT, Int.reduceLE, Int.le_refl, Int.reduceBEq, Int.reduceEq, bE, Int.reduceToNat, D.size, D.sizeL, sub_agt, sub_agf, sub_sc, sub_ls, isAg_ag, isAg_sc, isAg_ls, List.getD_cons_zero, List.getD_cons_succ, List.drop_zero, List.take_succ_cons, List.take_zero, List.drop_succ_cons, modeOf, noPtrs, lM, go_sem, ↓reduceIte, Nat.reduceEqDiff, Nat.reduceAdd, Nat.reduceLeDiff, Nat.reduceMul, Nat.reduceBEq, Nat.reduceBneDiff, Nat.reduceLT, Nat.reduceSub, iL, iN]
     refine ⟨by first | (simp only [ByteArray.size_append, bsz, List.size_toArray, lK, lZ]; omega) | omega, by first | (simp only [ByteArray.size_append, bsz, List.size_toArray, lK, lZ]; omega) | omega, callQ_self (ds := [eS 3 eE (an, al)]) (by rfl) (hc3 g0 hg (an, al) hAl hAx) ?_⟩
     simp +contextual -implicitDefEqProofs only [eSt, eS, eI, eB, eT, D.put, D.cells, Int.cast_ofNat_Int, Int.reduceLT, Int.reduceLE, Int.le_refl, Int.reduceBEq, Int.reduceEq, bE, Int.reduceToNat, D.size, D.sizeL, sub_agt, sub_agf, sub_sc, sub_ls, isAg_ag, isAg_sc, isAg_ls, List.getD_cons_zero, List.getD_cons_succ, List.drop_zero, List.take_succ_cons, List.take_zero, List.drop_succ_cons, modeOf, noPtrs, lM, go_sem, ↓reduceIte, Nat.reduceEqDiff, Nat.reduceAdd, Nat.reduceLeDiff, Nat.reduceMul, Nat.reduceBEq, Nat.reduceBneDiff, Nat.reduceLT, Nat.reduceSub, iL, iN]
     exact ⟨by first | (simp only [ByteArray.size_append, bsz, List.size_toArray, lK, lZ]; omega) | omega, by first | (simp only [ByteArray.size_append, bsz, List.size_toArray, lK, lZ]; omega) | omega, D.Le.sc_eq (by rw [hd])⟩
    ·have hd : dashT pl = ⟨#[]⟩ := by
      cases pl with
      | nil => exact absurd rfl hp0
      | cons y r => rfl
     have hpe : ((pl.length : Int) == 0) = false := by simp; exact fun e => hp0 (by rw [e]; rfl)
     simp +contextual -implicitDefEqProofs only [hi, hpe, eSt, eS, eI, eB, eT, D.put, D.cells, Int.cast_ofNat_Int, Int.reduceLT, Int.reduceLE, Int.le_refl, Int.reduceBEq, Int.reduceEq, bE, Int.reduceToNat, D.size, D.sizeL, sub_agt, sub_agf, sub_sc, sub_ls, isAg_ag, isAg_sc, isAg_ls, List.getD_cons_zero, List.getD_cons_succ, List.drop_zero, List.take_succ_cons, List.take_zero, List.drop_succ_cons, modeOf, noPtrs, lM, go_sem, ↓reduceIte, Nat.reduceEqDiff, Nat.reduceAdd, Nat.reduceLeDiff, Nat.reduceMul, Nat.reduceBEq, Nat.reduceBneDiff, Nat.reduceLT, Nat.reduceSub, iL, iN]
     refine ⟨by first | (simp only [ByteArray.size_append, bsz, List.size_toArray, lK, lZ]; omega) | omega, callQ_self (ds := [eS 3 eE (tn, tl)]) (by rfl) (hc3 g0 hg (tn, tl) (by show tl.length ≤ 4; omega) hTx) ?_⟩
     simp +contextual -implicitDefEqProofs only [eSt, eS, eI, eB, eT, D.put, D.cells, Int.cast_ofNat_Int, Int.reduceLT, Int.reduceLE, Int.le_refl, Int.reduceBEq, Int.reduceEq, bE, Int.reduceToNat, D.size, D.sizeL, sub_agt, sub_agf, sub_sc, sub_ls, isAg_ag, isAg_sc, isAg_ls, List.getD_cons_zero, List.getD_cons_succ, List.drop_zero, List.take_succ_cons, List.take_zero, List.drop_succ_cons, modeOf, noPtrs, lM, go_sem, ↓reduceIte, Nat.reduceEqDiff, Nat.reduceAdd, Nat.reduceLeDiff, Nat.reduceMul, Nat.reduceBEq, Nat.reduceBneDiff, Nat.reduceLT, Nat.reduceSub, iL, iN]
     refine ⟨by first | (simp only [ByteArray.size_append, bsz, List.size_toArray, lK, lZ]; omega) | omega, by first | (simp only [ByteArray.size_append, bsz, List.size_toArray, lK, lZ]; omega) | omega, callQ_self (ds := [eS 3 eE (an, al)]) (by rfl) (hc3 g0 hg (an, al) hAl hAx) ?_⟩
     simp +contextual -implicitDefEqProofs only [eSt, eS, eI, eB, eT, D.put, D.cells, Int.cast_ofNat_Int, Int.reduceLT, Int.reduceLE, Int.le_refl, Int.reduceBEq, Int.reduceEq, bE, Int.reduceToNat, D.size, D.sizeL, sub_agt, sub_agf, sub_sc, sub_ls, isAg_ag, isAg_sc, isAg_ls, List.getD_cons_zero, List.getD_cons_succ, List.drop_zero, List.take_succ_cons, List.take_zero, List.drop_succ_cons, modeOf, noPtrs, lM, go_sem, ↓reduceIte, Nat.reduceEqDiff, Nat.reduceAdd, Nat.reduceLeDiff, Nat.reduceMul, Nat.reduceBEq, Nat.reduceBneDiff, Nat.reduceLT, Nat.reduceSub, iL, iN]
     exact ⟨by first | (simp only [ByteArray.size_append, bsz, List.size_toArray, lK, lZ]; omega) | omega, by first | (simp only [ByteArray.size_append, bsz, List.size_toArray, lK, lZ]; omega) | omega, D.Le.sc_eq (by rw [hd, app_e])⟩
def refT (c : Cl) : ByteArray := if c.2.2.1 = 2 then ⟨#[108, 101, 102, 116, 32]⟩ ++ decB c.2.2.2.1.toNat ++ ⟨#[10]⟩ else if c.2.2.1 = 3 then ⟨#[114, 105, 103, 104, 116, 32]⟩ ++ decB c.2.2.2.1.toNat ++ ⟨#[10]⟩ else ⟨#[]⟩
def stepsT (s : ByteArray) (l : List Stp) : ByteArray := l.foldl (fun s x => s ++ stepT x) s
def claimHT (c : Cl) : ByteArray := ⟨#[99, 108, 97, 105, 109, 32]⟩ ++ lineT (c.1, c.2.1) ++ ⟨#[10]⟩
def claimT (s : ByteArray) (c : Cl) : ByteArray := stepsT (s ++ claimHT c ++ refT c) c.2.2.2.2.2
def claimsT (s : ByteArray) (l : List Cl) : ByteArray := l.foldl claimT s
def proofHT (t a : Nat) : ByteArray := ⟨#[112, 114, 111, 111, 102, 32]⟩ ++ decB t ++ ⟨#[32]⟩ ++ decB a ++ ⟨#[10]⟩

def proofT (p : Pf) : ByteArray := claimsT (proofHT p.1.1.toNat p.1.2.toNat) p.2.2
theorem stepsT_nil {s : ByteArray} : stepsT s [] = s := rfl
theorem claimsT_nil {s : ByteArray} : claimsT s [] = s := rfl
theorem stepsT_take {s : ByteArray} {l : List Stp} {i : Nat} (h : i < l.length) : stepsT s (l.take (i + 1)) = stepsT s (l.take i) ++ stepT l[i] := foldl_take h
theorem claimsT_take {s : ByteArray} {l : List Cl} {i : Nat} (h : i < l.length) : claimsT s (l.take (i + 1)) = claimT (claimsT s (l.take i)) l[i] := foldl_take h
theorem refT_size {c : Cl} : (refT c).size ≤ 9 := by
 have := decB_size (n := c.2.2.2.1.toNat)
 unfold refT
 split
 ·simp only [ByteArray.size_append, bsz, List.size_toArray, lK, lZ]; omega
 ·split <;> simp only [ByteArray.size_append, bsz, List.size_toArray, lK, lZ] <;> omega
theorem stepsT_size {g : Int × Int} (hg : okG g = true) {s : ByteArray} {l : List Stp} (h : ∀ x ∈ l, okSt g x = true) : (stepsT s l).size ≤ s.size + 9000 * l.length :=
 foldl_size l s fun s x hx => by
  have := stepT_size hg (h x hx)
  rw [ByteArray.size_append]
  omega
theorem okCl_and {g : Int × Int} {c : Cl} (h : okCl g c = true) : okE g c.1 = true ∧ okE g c.2.1 = true ∧ (1 ≤ c.2.2.1 ∧ c.2.2.1 ≤ 3) ∧ (0 ≤ c.2.2.2.1 ∧ c.2.2.2.1 ≤ 39) ∧ c.2.2.2.2.2.length ≤ 60 ∧ ∀ x ∈ c.2.2.2.2.2, okSt g x = true := by
 simp only [okCl, bA, decide_eq_true_eq, isIn_iff', List.all_eq_true] at h
 obtain ⟨⟨h1, h2⟩, h3, h4, h5, _, _, h8⟩ := h
 exact ⟨h1, h2, h3, h4, by omega, h8⟩
theorem lineT_size {g : Int × Int} (hg : okG g = true) {q : Eq2} (h1 : okE g q.1 = true) (h2 : okE g q.2 = true) : (lineT q).size ≤ 2003 := by
 have z1 := okE_size hg h1
 have z2 := okE_size hg h2
 simp only [lineT, ByteArray.size_append, bsz, List.size_toArray, lK, lZ]
 omega
theorem claimHT_size {g : Int × Int} (hg : okG g = true) {c : Cl} (h : okCl g c = true) : (claimHT c).size ≤ 2010 := by
 have := lineT_size (q := (c.1, c.2.1)) hg (okCl_and h).1 (okCl_and h).2.1
 simp only [claimHT, ByteArray.size_append, bsz, List.size_toArray, lK, lZ]
 omega
theorem claimT_size {g : Int × Int} (hg : okG g = true) {s : ByteArray} {c : Cl} (h : okCl g c = true) : (claimT s c).size ≤ s.size + 600000 := by
 have h1 := claimHT_size hg h
 have h2 := refT_size (c := c)
 have h3 := stepsT_size hg (s := s ++ claimHT c ++ refT c) (okCl_and h).2.2.2.2.2
 have h4 := (okCl_and h).2.2.2.2.1
 simp only [ByteArray.size_append] at h3
 unfold claimT
 omega
theorem claimsT_size {g : Int × Int} (hg : okG g = true) {s : ByteArray} {l : List Cl} (h : ∀ x ∈ l, okCl g x = true) : (claimsT s l).size ≤ s.size + 600000 * l.length :=
 foldl_size l s fun s x hx => claimT_size hg (h x hx)
theorem okPf_split {p : Pf} (h : okPf p = true) : ∃ (t a : Nat) (nn : Option Bool) (l : List Cl), p = (((t : Int), (a : Int)), nn, l) ∧ okG ((t : Int), (a : Int)) = true ∧ t < 100 ∧ a < 100 ∧ l.length ≤ 40 ∧ ∀ x ∈ l, okCl ((t : Int), (a : Int)) x = true := by
 simp only [okPf, bA, decide_eq_true_eq, List.all_eq_true] at h
 obtain ⟨hg, h1, h2⟩ := h
 obtain ⟨⟨t, a⟩, nn, l⟩ := p
 have hg2 := hg
 simp only [okG, bA, isIn_iff'] at hg2
 simp only at h1 h2
 obtain ⟨t, rfl⟩ : ∃ n : Nat, t = n := ⟨t.toNat, by omega⟩
 obtain ⟨a, rfl⟩ : ∃ n : Nat, a = n := ⟨a.toNat, by omega⟩
 exact ⟨t, a, nn, l, rfl, hg, by omega, by omega, by omega, h2⟩
def txtPf (p : Pf) : ByteArray := if okPf p then proofT p else ⟨#[]⟩

def K_join (P : Program) (fno : Nat) : Prop := ∀ (nn : Option Bool) (ts : List ByteArray) (sep : ByteArray), (∀ t ∈ ts, t.size ≤ 10000) → sep.size ≤ 100 → ts.length ≤ 1000 → AF P fno [.ls nn 1 (ts.map eT), eT sep] (.own (eT (joinP ⟨#[]⟩ sep ts)))

def K_fmtN (P : Program) (fno : Nat) : Prop := ∀ n : Int, -9223372036854775808 ≤ n → n ≤ 9223372036854775807 → ∃ s : ByteArray, s.size ≤ 25 ∧ AF P fno [eI n, eI 10] (.own (eT s))

def k_l04Text (f1 f2 f3 : Nat) : RC := (.seq (.r [⟨none, .mv 2 (.c (.sc (.string ⟨#[]⟩)))⟩]) (.seq (.reg true [.m 8 0, .n 9 8, .f 10 0 9, .f 11 0 10, .l 12 1 11, .c 13 f1 [.t 12], ⟨none, .bin 14 .add (.c (.sc (.string ⟨#[112, 114, 111, 111, 102, 32]⟩))) (.t 13)⟩, ⟨none, .bin 15 .add (.t 14) (.c (.sc (.string ⟨#[32]⟩)))⟩, .m 16 0, .n 17 16, .f 18 0 17, .f 19 1 18, .l 20 1 19, .c 21 f1 [.t 20], .o (.bin 22 .add (.t 15) (.t 21)), ⟨none, .bin 23 .add (.t 22) (.c (.sc (.string ⟨#[10]⟩)))⟩, .m 3 23]) (.seq (.seq (.r [.v 4 (.ci 0)]) (.blk 0 (.loop (.seq (.seq (.r [.m 24 4, .m 25 0, .n 26 25, .f 27 2 26, .l 28 1 27, .o (.len 29 (.t 28)), .o (.bin 30 .lss (.t 24) (.t 29))]) (.cond (.t 30) .skip (.exit 0))) (.seq (.blk 1 (.seq (.r [.m 33 0, .n 34 33, .f 35 2 34, .l 36 1 35, .m 37 4, .o (.ia 38 9 (.t 36) (.t 37)), .m 5 38]) (.seq (.reg true [.m 39 5, .n 40 39, .f 41 0 40, .L 42 3 41, .m 43 5, .n 44 43, .f 45 3 44, .L 46 3 45, .o (.bld 47 (.ag [(.sc (.int .i64 0)), (.sc (.int .i64 0)), (.ls (some true) 3 []), (.sc (.int .i64 0)), (.sc (.int .i64 0)), (.ls (some true) 3 [])]) [(0, 3, (.t 42)), (3, 3, (.t 46))]), .o (.zer 6 6 (.ag [(.sc (.int .i64 0)), (.sc (.int .i64 0)), (.ls (some true) 3 []), (.sc (.int .i64 0)), (.sc (.int .i64 0)), (.ls (some true) 3 [])])), .s 6 6 47]) (.seq (.r [.m 48 3, .c 49 f2 [.t 6], ⟨none, .bin 50 .add (.c (.sc (.string ⟨#[99, 108, 97, 105, 109, 32]⟩))) (.t 49)⟩, ⟨none, .bin 51 .add (.t 50) (.c (.sc (.string ⟨#[10]⟩)))⟩, .o (.bin 52 .add (.t 48) (.t 51)), .m 3 52]) (.seq (.seq (.r [.m 53 5, .n 54 53, .f 55 6 54, .l 56 1 55, .q 57 56 2]) (.cond (.t 57) (.r [.m 58 3, .m 59 5, .n 60 59, .f 61 7 60, .l 62 1 61, .c 63 f1 [.t 62], ⟨none, .bin 64 .add (.c (.sc (.string ⟨#[108, 101, 102, 116, 32]⟩))) (.t 63)⟩, ⟨none, .bin 65 .add (.t 64) (.c (.sc (.string ⟨#[10]⟩)))⟩, .o (.bin 66 .add (.t 58) (.t 65)), .m 3 66]) .skip)) (.seq (.seq (.r [.m 67 5, .n 68 67, .f 69 6 68, .l 70 1 69, .q 71 70 3]) (.cond (.t 71) (.r [.m 72 3, .m 73 5, .n 74 73, .f 75 7 74, .l 76 1 75, .c 77 f1 [.t 76], ⟨none, .bin 78 .add (.c (.sc (.string ⟨#[114, 105, 103, 104, 116, 32]⟩))) (.t 77)⟩, ⟨none, .bin 79 .add (.t 78) (.c (.sc (.string ⟨#[10]⟩)))⟩, .o (.bin 80 .add (.t 72) (.t 79)), .m 3 80]) .skip)) (.seq (.r [.v 7 (.ci 0)]) (.blk 2 (.loop (.seq (.seq (.r [.m 81 7, .m 82 5, .n 83 82, .f 84 8 83, .l 85 1 84, .o (.len 86 (.t 85)), .o (.bin 87 .lss (.t 81) (.t 86))]) (.cond (.t 87) .skip (.exit 2))) (.seq (.blk 3 (.r [.m 90 3, .m 91 5, .n 92 91, .f 93 8 92, .l 94 1 93, .m 95 7, .o (.ia 96 5 (.t 94) (.t 95)), .c 97 f3 [.t 96], .o (.bin 98 .add (.t 90) (.t 97)), .m 3 98])) (.r [.m 88 7, .o (.bin 89 .add (.t 88) (.ci 1)), .m 7 89])))))))))))) (.r [.m 31 4, .o (.bin 32 .add (.t 31) (.ci 1)), .m 4 32])))))) (.seq (.r [.m 99 3, .m 2 99]) .ret))))
def K_l04Text (P : Program) (fno : Nat) : Prop := ∀ (t a : Nat) (nn : Option Bool) (l : List Cl) (hg : okG ((t : Int), (a : Int)) = true) (ht : t < 100) (ha : a < 100) (hl : l.length ≤ 40) (hx : ∀ x ∈ l, okCl ((t : Int), (a : Int)) x = true), AF P fno [.pt (ePf (((t : Int), (a : Int)), nn, l)) 0] (.own (eT (proofT (((t : Int), (a : Int)), nn, l))))
theorem a_l04Text {P : Program} (hm : P.follows .mixedOrders = true) {g f1 f2 f3 : Nat} (hr : resF P g = some (100, k_l04Text f1 f2 f3, [.t 2])) (hc1 : K_spDecimal P f1) (hc2 : K_l04Line P f2) (hc3 : K_l04StepText P f3) : K_l04Text P g := by
 intro t a nn l hg ht ha hl hx
 have dt := decB_size (n := t)
 have da := decB_size (n := a)
 refine af_of_res hr hm rfl fun hb => ?_
 simp +contextual -implicitDefEqProofs only [k_l04Text, ePf, eS, eI, eB, eT, Int.cast_ofNat_Int, Int.reduceLT, Int.reduceLE, Int.le_refl, Int.reduceBEq, Int.reduceEq, bE, Int.reduceToNat, D.size, D.sizeL, sub_agt, sub_agf, sub_sc, sub_ls, isAg_ag, isAg_sc, isAg_ls, D.at, List.getD_cons_zero, List.getD_cons_succ, List.drop_zero, List.take_succ_cons, List.take_zero, List.drop_succ_cons, modeOf, noPtrs, lM, go_sem, ↓reduceIte, Nat.reduceEqDiff, Nat.reduceAdd, Nat.reduceLeDiff, Nat.reduceMul, Nat.reduceBEq, Nat.reduceBneDiff, Nat.reduceLT, Nat.reduceSub, iL, iN]
 refine callQ_self (ds := [eI (t : Nat)]) (by rfl) (hc1 t ht) ?_
 simp +contextual -implicitDefEqProofs only [ePf, eS, eI, eB, eT, Int.cast_ofNat_Int, Int.reduceLT, Int.reduceLE, Int.le_refl, Int.reduceBEq, Int.reduceEq, bE, Int.reduceToNat, D.size, D.sizeL, sub_agt, sub_agf, sub_sc, sub_ls, isAg_ag, isAg_sc, isAg_ls, D.at, List.getD_cons_zero, List.getD_cons_succ, List.drop_zero, List.take_succ_cons, List.take_zero, List.drop_succ_cons, modeOf, noPtrs, lM, go_sem, ↓reduceIte, Nat.reduceEqDiff, Nat.reduceAdd, Nat.reduceLeDiff, Nat.reduceMul, Nat.reduceBEq, Nat.reduceBneDiff, Nat.reduceLT, Nat.reduceSub, iL, iN]
 refine ⟨by first | (simp only [ByteArray.size_append, bsz, List.size_toArray, lK, lZ]; omega) | omega, by first | (simp only [ByteArray.size_append, bsz, List.size_toArray, lK, lZ]; omega) | omega, callQ_self (ds := [eI (a : Nat)]) (by rfl) (hc1 a ha) ?_⟩
 simp +contextual -implicitDefEqProofs only [ePf, eS, eI, eB, eT, Int.cast_ofNat_Int, Int.reduceLT, Int.reduceLE, Int.le_refl, Int.reduceBEq, Int.reduceEq, bE, Int.reduceToNat, D.size, D.sizeL, sub_agt, sub_agf, sub_sc, sub_ls, isAg_ag, isAg_sc, isAg_ls, D.at, List.getD_cons_zero, List.getD_cons_succ, List.drop_zero, List.take_succ_cons, List.take_zero, List.drop_succ_cons, modeOf, noPtrs, lM, go_sem, ↓reduceIte, Nat.reduceEqDiff, Nat.reduceAdd, Nat.reduceLeDiff, Nat.reduceMul, Nat.reduceBEq, Nat.reduceBneDiff, Nat.reduceLT, Nat.reduceSub, iL, iN]
 refine ⟨by first | (simp only [ByteArray.size_append, bsz, List.size_toArray, lK, lZ]; omega) | omega, by first | (simp only [ByteArray.size_append, bsz, List.size_toArray, lK, lZ]; omega) | omega, ?_⟩
 rw [show proofT (((t : Int), (a : Int)), nn, l) = claimsT (proofHT t a) l from rfl]
 generalize hH : (⟨#[112, 114, 111, 111, 102, 32]⟩ ++ decB t ++ ⟨#[32]⟩ ++ decB a ++ ⟨#[10]⟩ : ByteArray) = H
 have hzH : H.size ≤ 12 := by
  rw [← hH]
  simp only [ByteArray.size_append, bsz, List.size_toArray, lK, lZ]
  omega
 rw [show proofHT t a = H from hH]
 clear hH
 refine vc_onU (α := Nat) [3, 4, 5, 6, 7, 24, 25, 26, 27, 28, 29, 30, 31, 32, 33, 34, 35, 36, 37, 38, 39, 40, 41, 42, 43, 44, 45, 46, 47, 48, 49, 50, 51, 52, 53, 54, 55, 56, 57, 58, 59, 60, 61, 62, 63, 64, 65, 66, 67, 68, 69, 70, 71, 72, 73, 74, 75, 76, 77, 78, 79, 80, 81, 82, 83, 84, 85, 86, 87, 88, 89, 90, 91, 92, 93, 94, 95, 96, 97, 98] (fun i => [(4, .im none (.sc (.int .i64 i))), (3, .im none (.sc (.string (claimsT H (l.take i)))))]) (fun i => []) (fun i => i ≤ l.length) (fun i => l.length - i) 0 (Ent.to [] (by simp only [go_sem, ↓reduceIte, Nat.reduceEqDiff, Nat.reduceBEq, Nat.reduceBneDiff]; rfl) rfl (by simp) (by rfl) (by simp only [subEnv, go_sem, ↓reduceIte, Nat.reduceEqDiff, Nat.reduceBEq, keep, memN, Bool.or_false, Bool.false_or, Bool.or_self] <;> simp [claimsT_nil])) (Nat.zero_le _) ?_
 intro i hi0
 by_cases hi : i < l.length
 ·have e1 := at_map (f := eCl) hi
  have hC := hx _ (List.getElem_mem hi)
  have hct := claimsT_take (s := H) hi
  have hz := claimsT_size hg (s := H) (l := l.take i) fun x hx' => hx x (List.mem_of_mem_take hx')
  rw [List.length_take] at hz
  generalize claimsT H (l.take i) = s at hct hz ⊢
  generalize l[i] = cl at hct hC e1
  obtain ⟨⟨ck, cn, cnn, cks⟩, ⟨bk, bn, bnn, bks⟩, ru, rf, sn, sl⟩ := cl
  obtain ⟨o1, o2, hru, hrf, hsl, hsx⟩ := okCl_and hC
  simp only at o1 o2 hru hrf hsl hsx
  obtain ⟨rf, rfl⟩ : ∃ n : Nat, rf = n := ⟨rf.toNat, by omega⟩
  have dr := decB_size (n := rf)
  have hzl := lineT_size (q := ((.mk ck cn cnn cks), (.mk bk bn bnn bks))) hg o1 o2
  have z1 := okE_size hg o1
  have z2 := okE_size hg o2
  simp +contextual -implicitDefEqProofs only [hi, e1, eCl, eS, eI, eB, eT, Ex.k_mk, Ex.n_mk, Ex.nn_mk, Ex.ks_mk, D.put, D.cells, Int.cast_ofNat_Int, Int.reduceLT, Int.reduceLE, Int.le_refl, Int.reduceBEq, Int.reduceEq, bE, Int.reduceToNat, D.size, D.sizeL, sub_agt, sub_agf, sub_sc, sub_ls, isAg_ag, isAg_sc, isAg_ls, List.getD_cons_zero, List.getD_cons_succ, List.drop_zero, List.take_succ_cons, List.take_zero, List.drop_succ_cons, modeOf, noPtrs, lM, go_sem, ↓reduceIte, Nat.reduceEqDiff, Nat.reduceAdd, Nat.reduceLeDiff, Nat.reduceMul, Nat.reduceBEq, Nat.reduceBneDiff, Nat.reduceLT, Nat.reduceSub, iL, iN]
  refine callQ_self (ds := [.pt (eQ ((.mk ck cn cnn cks), (.mk bk bn bnn bks))) 0]) (by rfl) (hc2 ((t : Int), (a : Int)) hg ((.mk ck cn cnn cks), (.mk bk bn bnn bks)) (okE_tree o1) (okE_tree o2) (by show (textE (.mk ck cn cnn cks)).size ≤ _; omega) (by show (textE (.mk bk bn bnn bks)).size ≤ _; omega)) ?_
  simp +contextual -implicitDefEqProofs only [eS, eI, eB, eT, Ex.k_mk, Ex.n_mk, Ex.nn_mk, Ex.ks_mk, D.put, D.cells, Int.cast_ofNat_Int, Int.reduceLT, Int.reduceLE, Int.le_refl, Int.reduceBEq, Int.reduceEq, bE, Int.reduceToNat, D.size, D.sizeL, sub_agt, sub_agf, sub_sc, sub_ls, isAg_ag, isAg_sc, isAg_ls, List.getD_cons_zero, List.getD_cons_succ, List.drop_zero, List.take_succ_cons, List.take_zero, List.drop_succ_cons, modeOf, noPtrs, lM, go_sem, ↓reduceIte, Nat.reduceEqDiff, Nat.reduceAdd, Nat.reduceLeDiff, Nat.reduceMul, Nat.reduceBEq, Nat.reduceBneDiff, Nat.reduceLT, Nat.reduceSub, iL, iN]
  refine ⟨by first | (simp only [ByteArray.size_append, bsz, List.size_toArray, lK, lZ]; omega) | omega, by first | (simp only [ByteArray.size_append, bsz, List.size_toArray, lK, lZ]; omega) | omega, by first | (simp only [ByteArray.size_append, bsz, List.size_toArray, lK, lZ]; omega) | omega, ?_⟩
  have hru3 : ru = 1 ∨ ru = 2 ∨ ru = 3 := by omega
  rw [show claimT s ((.mk ck cn cnn cks), (.mk bk bn bnn bks), ru, (rf : Int), sn, sl) = stepsT (s ++ (⟨#[99, 108, 97, 105, 109, 32]⟩ ++ lineT ((.mk ck cn cnn cks), (.mk bk bn bnn bks)) ++ ⟨#[10]⟩) ++ refT ((.mk ck cn cnn cks), (.mk bk bn bnn bks), ru, (rf : Int), sn, sl)) sl from rfl] at hct
  rcases hru3 with rfl | rfl | rfl
  ·rw [show refT ((.mk ck cn cnn cks), (.mk bk bn bnn bks), 1, (rf : Int), sn, sl) = ⟨#[]⟩ by simp [refT], app_e] at hct
   simp +contextual -implicitDefEqProofs only [eS, eI, eB, eT, Ex.k_mk, Ex.n_mk, Ex.nn_mk, Ex.ks_mk, D.put, D.cells, Int.cast_ofNat_Int, Int.reduceLT, Int.reduceLE, Int.le_refl, Int.reduceBEq, Int.reduceEq, bE, Int.reduceToNat, D.size, D.sizeL, sub_agt, sub_agf, sub_sc, sub_ls, isAg_ag, isAg_sc, isAg_ls, List.getD_cons_zero, List.getD_cons_succ, List.drop_zero, List.take_succ_cons, List.take_zero, List.drop_succ_cons, modeOf, noPtrs, lM, go_sem, ↓reduceIte, Nat.reduceEqDiff, Nat.reduceAdd, Nat.reduceLeDiff, Nat.reduceMul, Nat.reduceBEq, Nat.reduceBneDiff, Nat.reduceLT, Nat.reduceSub, iL, iN]
   generalize hQ : (s ++ (⟨#[99, 108, 97, 105, 109, 32]⟩ ++ lineT ((.mk ck cn cnn cks), (.mk bk bn bnn bks)) ++ ⟨#[10]⟩) : ByteArray) = Q at hct ⊢
   have hzQ : Q.size ≤ s.size + 2100 := by
    rw [← hQ]
    simp only [ByteArray.size_append, bsz, List.size_toArray, lK, lZ]
    omega
   clear hQ
   refine vc_onU (α := Nat) [3, 6, 7, 81, 82, 83, 84, 85, 86, 87, 88, 89, 90, 91, 92, 93, 94, 95, 96, 97, 98] (fun j => [(7, .im none (.sc (.int .i64 j))), (3, .im none (.sc (.string (stepsT Q (sl.take j)))))]) (fun j => []) (fun j => j ≤ sl.length) (fun j => sl.length - j) 0 (Ent.to [6] (by simp only [go_sem, ↓reduceIte, Nat.reduceEqDiff, Nat.reduceBEq, Nat.reduceBneDiff]; rfl) rfl (by simp) (by rfl) (by simp only [subEnv, go_sem, ↓reduceIte, Nat.reduceEqDiff, Nat.reduceBEq, keep, memN, Bool.or_false, Bool.false_or, Bool.or_self] <;> simp [stepsT_nil])) (Nat.zero_le _) ?_
   intro j hj0
   by_cases hj : j < sl.length
   ·have e2 := at_map (f := eSt) hj
    have hS := hsx _ (List.getElem_mem hj)
    have hst := stepsT_take (s := Q) hj
    have hz2 := stepsT_size hg (s := Q) (l := sl.take j) fun x hx' => hsx x (List.mem_of_mem_take hx')
    have hz3 := stepT_size hg hS
    rw [List.length_take] at hz2
    generalize stepsT Q (sl.take j) = s2 at hst hz2 ⊢
    simp +contextual -implicitDefEqProofs only [hi, hj, e2, eSt_size, encSt.sub, eS, eI, eB, eT, Ex.k_mk, Ex.n_mk, Ex.nn_mk, Ex.ks_mk, D.put, D.cells, Int.cast_ofNat_Int, Int.reduceLT, Int.reduceLE, Int.le_refl, Int.reduceBEq, Int.reduceEq, bE, Int.reduceToNat, D.size, D.sizeL, sub_agt, sub_agf, sub_sc, sub_ls, isAg_ag, isAg_sc, isAg_ls, List.getD_cons_zero, List.getD_cons_succ, List.drop_zero, List.take_succ_cons, List.take_zero, List.drop_succ_cons, modeOf, noPtrs, lM, go_sem, ↓reduceIte, Nat.reduceEqDiff, Nat.reduceAdd, Nat.reduceLeDiff, Nat.reduceMul, Nat.reduceBEq, Nat.reduceBneDiff, Nat.reduceLT, Nat.reduceSub, iL, iN]
    refine callQ_self (ds := [.pt (eSt sl[j]) 0]) (by rfl) (hc3 ((t : Int), (a : Int)) hg sl[j] hS) ?_
    simp +contextual -implicitDefEqProofs only [eS, eI, eB, eT, Ex.k_mk, Ex.n_mk, Ex.nn_mk, Ex.ks_mk, D.put, D.cells, Int.cast_ofNat_Int, Int.reduceLT, Int.reduceLE, Int.le_refl, Int.reduceBEq, Int.reduceEq, bE, Int.reduceToNat, D.size, D.sizeL, sub_agt, sub_agf, sub_sc, sub_ls, isAg_ag, isAg_sc, isAg_ls, List.getD_cons_zero, List.getD_cons_succ, List.drop_zero, List.take_succ_cons, List.take_zero, List.drop_succ_cons, modeOf, noPtrs, lM, go_sem, ↓reduceIte, Nat.reduceEqDiff, Nat.reduceAdd, Nat.reduceLeDiff, Nat.reduceMul, Nat.reduceBEq, Nat.reduceBneDiff, Nat.reduceLT, Nat.reduceSub, iL, iN]
    refine ⟨by first | (simp only [ByteArray.size_append, bsz, List.size_toArray, lK, lZ]; omega) | omega, j + 1, by omega, by omega, ?_⟩
    rw [wrap_i64 (by omega) (by omega)]
    exact Ent.to [] (by simp only [go_sem, ↓reduceIte, Nat.reduceEqDiff, Nat.reduceBEq, Nat.reduceBneDiff]; rfl) rfl (by simp) (by rfl) (by simp only [subEnv, go_sem, ↓reduceIte, Nat.reduceEqDiff, Nat.reduceBEq, keep, memN, Bool.or_false, Bool.false_or, Bool.or_self] <;> simp [hst])
   ·obtain rfl : j = sl.length := by omega
    simp +contextual -implicitDefEqProofs only [hi, hj, List.take_length, eS, eI, eB, eT, Ex.k_mk, Ex.n_mk, Ex.nn_mk, Ex.ks_mk, D.put, D.cells, Int.cast_ofNat_Int, Int.reduceLT, Int.reduceLE, Int.le_refl, Int.reduceBEq, Int.reduceEq, bE, Int.reduceToNat, D.size, D.sizeL, sub_agt, sub_agf, sub_sc, sub_ls, isAg_ag, isAg_sc, isAg_ls, List.getD_cons_zero, List.getD_cons_succ, List.drop_zero, List.take_succ_cons, List.take_zero, List.drop_succ_cons, modeOf, noPtrs, lM, go_sem, ↓reduceIte, Nat.reduceEqDiff, Nat.reduceAdd, Nat.reduceLeDiff, Nat.reduceMul, Nat.reduceBEq, Nat.reduceBneDiff, Nat.reduceLT, Nat.reduceSub, iL, iN]
    refine ⟨i + 1, by omega, by omega, ?_⟩
    rw [wrap_i64 (by omega) (by omega)]
    exact Ent.to [] (by simp only [go_sem, ↓reduceIte, Nat.reduceEqDiff, Nat.reduceBEq, Nat.reduceBneDiff]; rfl) rfl (by simp) (by rfl) (by simp only [subEnv, go_sem, ↓reduceIte, Nat.reduceEqDiff, Nat.reduceBEq, keep, memN, Bool.or_false, Bool.false_or, Bool.or_self] <;> simp [hct])
  ·rw [show refT ((.mk ck cn cnn cks), (.mk bk bn bnn bks), 2, (rf : Int), sn, sl) = ⟨#[108, 101, 102, 116, 32]⟩ ++ decB rf ++ ⟨#[10]⟩ by simp [refT]] at hct
   simp +contextual -implicitDefEqProofs only [eS, eI, eB, eT, Ex.k_mk, Ex.n_mk, Ex.nn_mk, Ex.ks_mk, D.put, D.cells, Int.cast_ofNat_Int, Int.reduceLT, Int.reduceLE, Int.le_refl, Int.reduceBEq, Int.reduceEq, bE, Int.reduceToNat, D.size, D.sizeL, sub_agt, sub_agf, sub_sc, sub_ls, isAg_ag, isAg_sc, isAg_ls, List.getD_cons_zero, List.getD_cons_succ, List.drop_zero, List.take_succ_cons, List.take_zero, List.drop_succ_cons, modeOf, noPtrs, lM, go_sem, ↓reduceIte, Nat.reduceEqDiff, Nat.reduceAdd, Nat.reduceLeDiff, Nat.reduceMul, Nat.reduceBEq, Nat.reduceBneDiff, Nat.reduceLT, Nat.reduceSub, iL, iN]
   refine callQ_self (ds := [eI (rf : Nat)]) (by rfl) (hc1 rf (by omega)) ?_
   simp +contextual -implicitDefEqProofs only [eS, eI, eB, eT, Ex.k_mk, Ex.n_mk, Ex.nn_mk, Ex.ks_mk, D.put, D.cells, Int.cast_ofNat_Int, Int.reduceLT, Int.reduceLE, Int.le_refl, Int.reduceBEq, Int.reduceEq, bE, Int.reduceToNat, D.size, D.sizeL, sub_agt, sub_agf, sub_sc, sub_ls, isAg_ag, isAg_sc, isAg_ls, List.getD_cons_zero, List.getD_cons_succ, List.drop_zero, List.take_succ_cons, List.take_zero, List.drop_succ_cons, modeOf, noPtrs, lM, go_sem, ↓reduceIte, Nat.reduceEqDiff, Nat.reduceAdd, Nat.reduceLeDiff, Nat.reduceMul, Nat.reduceBEq, Nat.reduceBneDiff, Nat.reduceLT, Nat.reduceSub, iL, iN]
   refine ⟨by first | (simp only [ByteArray.size_append, bsz, List.size_toArray, lK, lZ]; omega) | omega, by first | (simp only [ByteArray.size_append, bsz, List.size_toArray, lK, lZ]; omega) | omega, by first | (simp only [ByteArray.size_append, bsz, List.size_toArray, lK, lZ]; omega) | omega, ?_⟩
   generalize hQ : (s ++ (⟨#[99, 108, 97, 105, 109, 32]⟩ ++ lineT ((.mk ck cn cnn cks), (.mk bk bn bnn bks)) ++ ⟨#[10]⟩) ++ (⟨#[108, 101, 102, 116, 32]⟩ ++ decB rf ++ ⟨#[10]⟩) : ByteArray) = Q at hct ⊢
   have hzQ : Q.size ≤ s.size + 2100 := by
    rw [← hQ]
    simp only [ByteArray.size_append, bsz, List.size_toArray, lK, lZ]
    omega
   clear hQ
   refine vc_onU (α := Nat) [3, 6, 7, 81, 82, 83, 84, 85, 86, 87, 88, 89, 90, 91, 92, 93, 94, 95, 96, 97, 98] (fun j => [(7, .im none (.sc (.int .i64 j))), (3, .im none (.sc (.string (stepsT Q (sl.take j)))))]) (fun j => []) (fun j => j ≤ sl.length) (fun j => sl.length - j) 0 (Ent.to [6] (by simp only [go_sem, ↓reduceIte, Nat.reduceEqDiff, Nat.reduceBEq, Nat.reduceBneDiff]; rfl) rfl (by simp) (by rfl) (by simp only [subEnv, go_sem, ↓reduceIte, Nat.reduceEqDiff, Nat.reduceBEq, keep, memN, Bool.or_false, Bool.false_or, Bool.or_self] <;> simp [stepsT_nil])) (Nat.zero_le _) ?_
   intro j hj0
   by_cases hj : j < sl.length
   ·have e2 := at_map (f := eSt) hj
    have hS := hsx _ (List.getElem_mem hj)
    have hst := stepsT_take (s := Q) hj
    have hz2 := stepsT_size hg (s := Q) (l := sl.take j) fun x hx' => hsx x (List.mem_of_mem_take hx')
    have hz3 := stepT_size hg hS
    rw [List.length_take] at hz2
    generalize stepsT Q (sl.take j) = s2 at hst hz2 ⊢
    simp +contextual -implicitDefEqProofs only [hi, hj, e2, eSt_size, encSt.sub, eS, eI, eB, eT, Ex.k_mk, Ex.n_mk, Ex.nn_mk, Ex.ks_mk, D.put, D.cells, Int.cast_ofNat_Int, Int.reduceLT, Int.reduceLE, Int.le_refl, Int.reduceBEq, Int.reduceEq, bE, Int.reduceToNat, D.size, D.sizeL, sub_agt, sub_agf, sub_sc, sub_ls, isAg_ag, isAg_sc, isAg_ls, List.getD_cons_zero, List.getD_cons_succ, List.drop_zero, List.take_succ_cons, List.take_zero, List.drop_succ_cons, modeOf, noPtrs, lM, go_sem, ↓reduceIte, Nat.reduceEqDiff, Nat.reduceAdd, Nat.reduceLeDiff, Nat.reduceMul, Nat.reduceBEq, Nat.reduceBneDiff, Nat.reduceLT, Nat.reduceSub, iL, iN]
    refine callQ_self (ds := [.pt (eSt sl[j]) 0]) (by rfl) (hc3 ((t : Int), (a : Int)) hg sl[j] hS) ?_
    simp +contextual -implicitDefEqProofs only [eS, eI, eB, eT, Ex.k_mk, Ex.n_mk, Ex.nn_mk, Ex.ks_mk, D.put, D.cells, Int.cast_ofNat_Int, Int.reduceLT, Int.reduceLE, Int.le_refl, Int.reduceBEq, Int.reduceEq, bE, Int.reduceToNat, D.size, D.sizeL, sub_agt, sub_agf, sub_sc, sub_ls, isAg_ag, isAg_sc, isAg_ls, List.getD_cons_zero, List.getD_cons_succ, List.drop_zero, List.take_succ_cons, List.take_zero, List.drop_succ_cons, modeOf, noPtrs, lM, go_sem, ↓reduceIte, Nat.reduceEqDiff, Nat.reduceAdd, Nat.reduceLeDiff, Nat.reduceMul, Nat.reduceBEq, Nat.reduceBneDiff, Nat.reduceLT, Nat.reduceSub, iL, iN]
    refine ⟨by first | (simp only [ByteArray.size_append, bsz, List.size_toArray, lK, lZ]; omega) | omega, j + 1, by omega, by omega, ?_⟩
    rw [wrap_i64 (by omega) (by omega)]
    exact Ent.to [] (by simp only [go_sem, ↓reduceIte, Nat.reduceEqDiff, Nat.reduceBEq, Nat.reduceBneDiff]; rfl) rfl (by simp) (by rfl) (by simp only [subEnv, go_sem, ↓reduceIte, Nat.reduceEqDiff, Nat.reduceBEq, keep, memN, Bool.or_false, Bool.false_or, Bool.or_self] <;> simp [hst])
   ·obtain rfl : j = sl.length := by omega
    simp +contextual -implicitDefEqProofs only [hi, hj, List.take_length, eS, eI, eB, eT, Ex.k_mk, Ex.n_mk, Ex.nn_mk, Ex.ks_mk, D.put, D.cells, Int.cast_ofNat_Int, Int.reduceLT, Int.reduceLE, Int.le_refl, Int.reduceBEq, Int.reduceEq, bE, Int.reduceToNat, D.size, D.sizeL, sub_agt, sub_agf, sub_sc, sub_ls, isAg_ag, isAg_sc, isAg_ls, List.getD_cons_zero, List.getD_cons_succ, List.drop_zero, List.take_succ_cons, List.take_zero, List.drop_succ_cons, modeOf, noPtrs, lM, go_sem, ↓reduceIte, Nat.reduceEqDiff, Nat.reduceAdd, Nat.reduceLeDiff, Nat.reduceMul, Nat.reduceBEq, Nat.reduceBneDiff, Nat.reduceLT, Nat.reduceSub, iL, iN]
    refine ⟨i + 1, by omega, by omega, ?_⟩
    rw [wrap_i64 (by omega) (by omega)]
    exact Ent.to [] (by simp only [go_sem, ↓reduceIte, Nat.reduceEqDiff, Nat.reduceBEq, Nat.reduceBneDiff]; rfl) rfl (by simp) (by rfl) (by simp only [subEnv, go_sem, ↓reduceIte, Nat.reduceEqDiff, Nat.reduceBEq, keep, memN, Bool.or_false, Bool.false_or, Bool.or_self] <;> simp [hct])
  ·rw [show refT ((.mk ck cn cnn cks), (.mk bk bn bnn bks), 3, (rf : Int), sn, sl) = ⟨#[114, 105, 103, 104, 116, 32]⟩ ++ decB rf ++ ⟨#[10]⟩ by simp [refT]] at hct
   simp +contextual -implicitDefEqProofs only [eS, eI, eB, eT, Ex.k_mk, Ex.n_mk, Ex.nn_mk, Ex.ks_mk, D.put, D.cells, Int.cast_ofNat_Int, Int.reduceLT, Int.reduceLE, Int.le_refl, Int.reduceBEq, Int.reduceEq, bE, Int.reduceToNat, D.size, D.sizeL, sub_agt, sub_agf, sub_sc, sub_ls, isAg_ag, isAg_sc, isAg_ls, List.getD_cons_zero, List.getD_cons_succ, List.drop_zero, List.take_succ_cons, List.take_zero, List.drop_succ_cons, modeOf, noPtrs, lM, go_sem, ↓reduceIte, Nat.reduceEqDiff, Nat.reduceAdd, Nat.reduceLeDiff, Nat.reduceMul, Nat.reduceBEq, Nat.reduceBneDiff, Nat.reduceLT, Nat.reduceSub, iL, iN]
   refine callQ_self (ds := [eI (rf : Nat)]) (by rfl) (hc1 rf (by omega)) ?_
   simp +contextual -implicitDefEqProofs only [eS, eI, eB, eT, Ex.k_mk, Ex.n_mk, Ex.nn_mk, Ex.ks_mk, D.put, D.cells, Int.cast_ofNat_Int, Int.reduceLT, Int.reduceLE, Int.le_refl, Int.reduceBEq, Int.reduceEq, bE, Int.reduceToNat, D.size, D.sizeL, sub_agt, sub_agf, sub_sc, sub_ls, isAg_ag, isAg_sc, isAg_ls, List.getD_cons_zero, List.getD_cons_succ, List.drop_zero, List.take_succ_cons, List.take_zero, List.drop_succ_cons, modeOf, noPtrs, lM, go_sem, ↓reduceIte, Nat.reduceEqDiff, Nat.reduceAdd, Nat.reduceLeDiff, Nat.reduceMul, Nat.reduceBEq, Nat.reduceBneDiff, Nat.reduceLT, Nat.reduceSub, iL, iN]
   refine ⟨by first | (simp only [ByteArray.size_append, bsz, List.size_toArray, lK, lZ]; omega) | omega, by first | (simp only [ByteArray.size_append, bsz, List.size_toArray, lK, lZ]; omega) | omega, by first | (simp only [ByteArray.size_append, bsz, List.size_toArray, lK, lZ]; omega) | omega, ?_⟩
   generalize hQ : (s ++ (⟨#[99, 108, 97, 105, 109, 32]⟩ ++ lineT ((.mk ck cn cnn cks), (.mk bk bn bnn bks)) ++ ⟨#[10]⟩) ++ (⟨#[114, 105, 103, 104, 116, 32]⟩ ++ decB rf ++ ⟨#[10]⟩) : ByteArray) = Q at hct ⊢
   have hzQ : Q.size ≤ s.size + 2100 := by
    rw [← hQ]
    simp only [ByteArray.size_append, bsz, List.size_toArray, lK, lZ]
    omega
   clear hQ
   refine vc_onU (α := Nat) [3, 6, 7, 81, 82, 83, 84, 85, 86, 87, 88, 89, 90, 91, 92, 93, 94, 95, 96, 97, 98] (fun j => [(7, .im none (.sc (.int .i64 j))), (3, .im none (.sc (.string (stepsT Q (sl.take j)))))]) (fun j => []) (fun j => j ≤ sl.length) (fun j => sl.length - j) 0 (Ent.to [6] (by simp only [go_sem, ↓reduceIte, Nat.reduceEqDiff, Nat.reduceBEq, Nat.reduceBneDiff]; rfl) rfl (by simp) (by rfl) (by simp only [subEnv, go_sem, ↓reduceIte, Nat.reduceEqDiff, Nat.reduceBEq, keep, memN, Bool.or_false, Bool.false_or, Bool.or_self] <;> simp [stepsT_nil])) (Nat.zero_le _) ?_
   intro j hj0
   by_cases hj : j < sl.length
   ·have e2 := at_map (f := eSt) hj
    have hS := hsx _ (List.getElem_mem hj)
    have hst := stepsT_take (s := Q) hj
    have hz2 := stepsT_size hg (s := Q) (l := sl.take j) fun x hx' => hsx x (List.mem_of_mem_take hx')
    have hz3 := stepT_size hg hS
    rw [List.length_take] at hz2
    generalize stepsT Q (sl.take j) = s2 at hst hz2 ⊢
    simp +contextual -implicitDefEqProofs only [hi, hj, e2, eSt_size, encSt.sub, eS, eI, eB, eT, Ex.k_mk, Ex.n_mk, Ex.nn_mk, Ex.ks_mk, D.put, D.cells, Int.cast_ofNat_Int, Int.reduceLT, Int.reduceLE, Int.le_refl, Int.reduceBEq, Int.reduceEq, bE, Int.reduceToNat, D.size, D.sizeL, sub_agt, sub_agf, sub_sc, sub_ls, isAg_ag, isAg_sc, isAg_ls, List.getD_cons_zero, List.getD_cons_succ, List.drop_zero, List.take_succ_cons, List.take_zero, List.drop_succ_cons, modeOf, noPtrs, lM, go_sem, ↓reduceIte, Nat.reduceEqDiff, Nat.reduceAdd, Nat.reduceLeDiff, Nat.reduceMul, Nat.reduceBEq, Nat.reduceBneDiff, Nat.reduceLT, Nat.reduceSub, iL, iN]
    refine callQ_self (ds := [.pt (eSt sl[j]) 0]) (by rfl) (hc3 ((t : Int), (a : Int)) hg sl[j] hS) ?_
    simp +contextual -implicitDefEqProofs only [eS, eI, eB, eT, Ex.k_mk, Ex.n_mk, Ex.nn_mk, Ex.ks_mk, D.put, D.cells, Int.cast_ofNat_Int, Int.reduceLT, Int.reduceLE, Int.le_refl, Int.reduceBEq, Int.reduceEq, bE, Int.reduceToNat, D.size, D.sizeL, sub_agt, sub_agf, sub_sc, sub_ls, isAg_ag, isAg_sc, isAg_ls, List.getD_cons_zero, List.getD_cons_succ, List.drop_zero, List.take_succ_cons, List.take_zero, List.drop_succ_cons, modeOf, noPtrs, lM, go_sem, ↓reduceIte, Nat.reduceEqDiff, Nat.reduceAdd, Nat.reduceLeDiff, Nat.reduceMul, Nat.reduceBEq, Nat.reduceBneDiff, Nat.reduceLT, Nat.reduceSub, iL, iN]
    refine ⟨by first | (simp only [ByteArray.size_append, bsz, List.size_toArray, lK, lZ]; omega) | omega, j + 1, by omega, by omega, ?_⟩
    rw [wrap_i64 (by omega) (by omega)]
    exact Ent.to [] (by simp only [go_sem, ↓reduceIte, Nat.reduceEqDiff, Nat.reduceBEq, Nat.reduceBneDiff]; rfl) rfl (by simp) (by rfl) (by simp only [subEnv, go_sem, ↓reduceIte, Nat.reduceEqDiff, Nat.reduceBEq, keep, memN, Bool.or_false, Bool.false_or, Bool.or_self] <;> simp [hst])
   ·obtain rfl : j = sl.length := by omega
    simp +contextual -implicitDefEqProofs only [hi, hj, List.take_length, eS, eI, eB, eT, Ex.k_mk, Ex.n_mk, Ex.nn_mk, Ex.ks_mk, D.put, D.cells, Int.cast_ofNat_Int, Int.reduceLT, Int.reduceLE, Int.le_refl, Int.reduceBEq, Int.reduceEq, bE, Int.reduceToNat, D.size, D.sizeL, sub_agt, sub_agf, sub_sc, sub_ls, isAg_ag, isAg_sc, isAg_ls, List.getD_cons_zero, List.getD_cons_succ, List.drop_zero, List.take_succ_cons, List.take_zero, List.drop_succ_cons, modeOf, noPtrs, lM, go_sem, ↓reduceIte, Nat.reduceEqDiff, Nat.reduceAdd, Nat.reduceLeDiff, Nat.reduceMul, Nat.reduceBEq, Nat.reduceBneDiff, Nat.reduceLT, Nat.reduceSub, iL, iN]
    refine ⟨i + 1, by omega, by omega, ?_⟩
    rw [wrap_i64 (by omega) (by omega)]
    exact Ent.to [] (by simp only [go_sem, ↓reduceIte, Nat.reduceEqDiff, Nat.reduceBEq, Nat.reduceBneDiff]; rfl) rfl (by simp) (by rfl) (by simp only [subEnv, go_sem, ↓reduceIte, Nat.reduceEqDiff, Nat.reduceBEq, keep, memN, Bool.or_false, Bool.false_or, Bool.or_self] <;> simp [hct])
 ·obtain rfl : i = l.length := by omega
  simp +contextual -implicitDefEqProofs only [hi, List.take_length, ePf, eS, eI, eB, eT, Int.cast_ofNat_Int, Int.reduceLT, Int.reduceLE, Int.le_refl, Int.reduceBEq, Int.reduceEq, bE, Int.reduceToNat, D.size, D.sizeL, sub_agt, sub_agf, sub_sc, sub_ls, isAg_ag, isAg_sc, isAg_ls, D.at, List.getD_cons_zero, List.getD_cons_succ, List.drop_zero, List.take_succ_cons, List.take_zero, List.drop_succ_cons, modeOf, noPtrs, lM, go_sem, ↓reduceIte, Nat.reduceEqDiff, Nat.reduceAdd, Nat.reduceLeDiff, Nat.reduceMul, Nat.reduceBEq, Nat.reduceBneDiff, Nat.reduceLT, Nat.reduceSub, iL, iN]

def k_spProofText (f1 f2 : Nat) : RC := (.seq (.r [.b 1 3 0, ⟨none, .mv 2 (.c (.sc (.string ⟨#[]⟩)))⟩]) (.seq (.seq (.r [.c 3 f1 [.t 1], .o (.un 4 .not (.t 3))]) (.cond (.t 4) (.seq (.r [⟨none, .mv 2 (.c (.sc (.string ⟨#[]⟩)))⟩]) .ret) .skip)) (.seq (.r [.c 5 f2 [.t 1], .m 2 5]) .ret)))
def K_spProofText (P : Program) (fno : Nat) : Prop := ∀ (p : Pf), AF P fno [ePf p] (.own (eT (txtPf p)))
theorem a_spProofText {P : Program} (hm : P.follows .mixedOrders = true) {g f1 f2 : Nat} (hr : resF P g = some (6, k_spProofText f1 f2, [.t 2])) (hc1 : K_l04Ok P f1) (hc2 : K_l04Text P f2) : K_spProofText P g := by
 intro p
 refine af_of_res hr hm rfl fun hb => ?_
 cases ho : okPf p
 ·have et : txtPf p = ⟨#[]⟩ := by simp only [txtPf, ho]; rfl
  rw [et]
  obtain ⟨⟨t, a⟩, nn, l⟩ := p
  simp +contextual -implicitDefEqProofs only [k_spProofText, ePf, eS, eI, eB, eT, Int.cast_ofNat_Int, Int.reduceLT, Int.reduceLE, Int.le_refl, Int.reduceBEq, Int.reduceEq, bE, Int.reduceToNat, D.size, D.sizeL, sub_agt, sub_agf, sub_sc, sub_ls, isAg_ag, isAg_sc, isAg_ls, D.at, List.getD_cons_zero, List.getD_cons_succ, List.drop_zero, List.take_succ_cons, List.take_zero, List.drop_succ_cons, modeOf, noPtrs, lM, go_sem, ↓reduceIte, Nat.reduceEqDiff, Nat.reduceAdd, Nat.reduceLeDiff, Nat.reduceMul, Nat.reduceBEq, Nat.reduceBneDiff, Nat.reduceLT, Nat.reduceSub, iL, iN]
  refine callQ_self (ds := [.pt (ePf ((t, a), nn, l)) 0]) (by rfl) (hc1 _) ?_
  rw [ho]
  simp +contextual -implicitDefEqProofs only [eT, eB, bne, bT, bN, bI, bG, bU, bJ, Bool.true_or, Bool.false_or, Bool.or_true, Bool.or_false, D.size, D.sizeL, sub_agt, sub_agf, sub_sc, sub_ls, isAg_ag, isAg_sc, isAg_ls, D.at, List.getD_cons_zero, List.getD_cons_succ, List.drop_zero, List.take_succ_cons, List.take_zero, List.drop_succ_cons, modeOf, noPtrs, lM, go_sem, eI, ↓reduceIte, Nat.reduceEqDiff, Nat.reduceAdd, Nat.reduceLeDiff, Nat.reduceMul, Nat.reduceBEq, Nat.reduceBneDiff, Nat.reduceLT, Nat.reduceSub, iL, iN]
 ·obtain ⟨t, a, nn, l, rfl, hg, ht, ha, hl, hx⟩ := okPf_split ho
  have et : txtPf (((t : Int), (a : Int)), nn, l) = proofT (((t : Int), (a : Int)), nn, l) := by simp only [txtPf, ho, if_true]
  rw [et]
  simp +contextual -implicitDefEqProofs only [k_spProofText, ePf, eS, eI, eB, eT, Int.cast_ofNat_Int, Int.reduceLT, Int.reduceLE, Int.le_refl, Int.reduceBEq, Int.reduceEq, bE, Int.reduceToNat, D.size, D.sizeL, sub_agt, sub_agf, sub_sc, sub_ls, isAg_ag, isAg_sc, isAg_ls, D.at, List.getD_cons_zero, List.getD_cons_succ, List.drop_zero, List.take_succ_cons, List.take_zero, List.drop_succ_cons, modeOf, noPtrs, lM, go_sem, ↓reduceIte, Nat.reduceEqDiff, Nat.reduceAdd, Nat.reduceLeDiff, Nat.reduceMul, Nat.reduceBEq, Nat.reduceBneDiff, Nat.reduceLT, Nat.reduceSub, iL, iN]
  refine callQ_self (ds := [.pt (ePf (((t : Int), (a : Int)), nn, l)) 0]) (by rfl) (hc1 _) ?_
  rw [ho]
  simp +contextual -implicitDefEqProofs only [eT, eB, bne, bT, bN, bI, bG, bU, bJ, Bool.true_or, Bool.false_or, Bool.or_true, Bool.or_false, D.size, D.sizeL, sub_agt, sub_agf, sub_sc, sub_ls, isAg_ag, isAg_sc, isAg_ls, D.at, List.getD_cons_zero, List.getD_cons_succ, List.drop_zero, List.take_succ_cons, List.take_zero, List.drop_succ_cons, modeOf, noPtrs, lM, go_sem, eI, ↓reduceIte, Nat.reduceEqDiff, Nat.reduceAdd, Nat.reduceLeDiff, Nat.reduceMul, Nat.reduceBEq, Nat.reduceBneDiff, Nat.reduceLT, Nat.reduceSub, iL, iN]
  refine callQ_self (ds := [.pt (ePf (((t : Int), (a : Int)), nn, l)) 0]) (by rfl) (hc2 t a nn l hg ht ha hl hx) ?_
  simp +contextual -implicitDefEqProofs only [eT, D.size, D.sizeL, sub_agt, sub_agf, sub_sc, sub_ls, isAg_ag, isAg_sc, isAg_ls, D.at, List.getD_cons_zero, List.getD_cons_succ, List.drop_zero, List.take_succ_cons, List.take_zero, List.drop_succ_cons, modeOf, noPtrs, lM, go_sem, eI, eB, ↓reduceIte, Nat.reduceEqDiff, Nat.reduceAdd, Nat.reduceLeDiff, Nat.reduceMul, Nat.reduceBEq, Nat.reduceBneDiff, Nat.reduceLT, Nat.reduceSub, iL, iN]
end Go.Ax
