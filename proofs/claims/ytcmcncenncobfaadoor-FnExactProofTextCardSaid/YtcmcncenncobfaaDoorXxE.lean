/- Contracts of functions of the seat, proved over the engine. No condition. -/
import Derived.Test.YtcmcncenncobfaaDoorXxD
import Derived.Shelf.Strings.OnBuilder
import Derived.Shelf.Strconv.Itoa4
import Derived.Lib.ItoaLen
import Derived.Lib.AppendIntMem
import Derived.Test.YtcmcncenncobfaaDoorXxB
import Derived.Shelf.Strings.Builder1
import Derived.Test.YtcmcncenncobfaaDoorEnH
import Derived.LaidMore
import Derived.SevenTiedAt
set_option linter.unusedSimpArgs false
set_option linter.unusedVariables false
set_option linter.unnecessarySimpa false
set_option linter.unusedSectionVars false
namespace Go.Ax
set_option maxRecDepth 20000
set_option maxHeartbeats 4000000

def K_imDecimalN (P : Program) (fno : Nat) : Prop := K_imDecimal P fno ∧ ∀ n : Int, -9223372036854775808 ≤ n → n ≤ 9223372036854775807 → ∃ s : ByteArray, s.size ≤ 25 ∧ AF P fno [eI n] (.own (eT s))
theorem a_imDecimalN {P : Program} (hm : P.follows .mixedOrders = true) {g f1 : Nat} (hr : resF P g = some (5, k_imDecimal f1, [.t 2])) (h0 : K_imDecimal P g) (hc1 : K_fmtN P f1) : K_imDecimalN P g := by
 refine ⟨h0, fun n h1 h2 => ?_⟩
 obtain ⟨s, hs, hc⟩ := hc1 n h1 h2
 refine ⟨s, hs, af_of_res hr hm rfl fun hb => ?_⟩
 simp +contextual -implicitDefEqProofs only [k_imDecimal, eI, eT, go_sem, ↓reduceIte, Nat.reduceEqDiff]
 refine callQ_self (ds := [eI n, eI 10]) (by rfl) hc ?_
 simp +contextual -implicitDefEqProofs only [eT, go_sem, ↓reduceIte]
def k_imListText (f1 f2 : Nat) : RC := (.seq (.r [⟨none, .mv 2 (.c (.sc (.string ⟨#[]⟩)))⟩]) (.seq (.r [⟨none, .bs 6 1 (.sc (.string ⟨#[]⟩)) 0 []⟩, .m 3 6]) (.seq (.seq (.r [.m 7 0, .o (.len 8 (.t 7)), .v 9 (.ci 0)]) (.blk 0 (.loop (.seq (.r [.o (.bin 10 .lss (.t 9) (.t 8))]) (.seq (.cond (.t 10) .skip (.exit 0)) (.seq (.blk 1 (.seq (.r [.o (.ia 11 3 (.t 7) (.t 9)), .L 12 3 11, .o (.zer 5 3 .ze), .s 3 5 12]) (.r [.m 13 3, .L 14 3 5, .c 15 f1 [.t 14], ⟨none, .bs 16 1 (.sc (.string ⟨#[]⟩)) 1 [(0, (.t 15))]⟩, .o (.app 17 1 16 (.t 13) (.t 16)), .m 3 17]))) (.r [.o (.bin 18 .add (.t 9) (.ci 1)), .m 9 18]))))))) (.seq (.r [.m 19 3, ⟨none, .call (some 20) f2 [.t 19, (.c (.sc (.string ⟨#[59, 32]⟩)))]⟩, ⟨none, .bin 21 .add (.c (.sc (.string ⟨#[91]⟩))) (.t 20)⟩, ⟨none, .bin 22 .add (.t 21) (.c (.sc (.string ⟨#[93]⟩)))⟩, .m 2 22]) .ret))))
def K_imListText (P : Program) (fno : Nat) : Prop := ∀ (g0 : Int × Int) (hg : okG g0 = true) (l : SL Ex) (hl : l.2.length ≤ 4) (hx : ∀ e ∈ l.2, okE g0 e = true), AF P fno [eS 3 eE l] (.own (eT (listT l.2)))
theorem a_imListText {P : Program} (hm : P.follows .mixedOrders = true) {g f1 f2 : Nat} (hr : resF P g = some (23, k_imListText f1 f2, [.t 2])) (hc1 : K_textOf P f1) (hc2 : K_join P f2) : K_imListText P g := by
 intro g0 hg l hl hx
 refine af_of_res hr hm rfl fun hb => ?_
 simp +contextual -implicitDefEqProofs only [k_imListText, eS, eT, lM, go_sem, ↓reduceIte, Nat.reduceEqDiff, Nat.reduceLT]
 refine vc_onU (α := Nat) [3, 5, 6, 9, 10, 11, 12, 13, 14, 15, 16, 17, 18] (fun i => [(9, .im none (.sc (.int .i64 i))), (3, .sm 6 0 i)]) (fun i => [(6, .ar true (some false) 1 (((l.2.map textE).take i).map eT))]) (fun i => i ≤ l.2.length) (fun i => l.2.length - i) 0 (Ent.to [] (by simp only [go_sem]; rfl) rfl (by simp) (by rfl) (by simp only [subEnv, go_sem, ↓reduceIte, Nat.reduceEqDiff, keep, memN] <;> simp)) (Nat.zero_le _) ?_
 intro i hi0
 by_cases hi : i < l.2.length
 ·have e1 := at_map (f := eE) hi
  have hE := hx _ (List.getElem_mem hi)
  have hz1 := okE_size hg hE
  have hi2 : i < (l.2.map textE).length := by simpa using hi
  have ht : ((l.2.map textE).take (i + 1)) = ((l.2.map textE).take i) ++ [textE l.2[i]] := by rw [List.take_add_one]; simp [hi]
  have hlt : ((l.2.map textE).take i).length = i := by simp; omega
  cases hfl : (eE l.2[i]).flat
  all_goals
   simp +contextual -implicitDefEqProofs only [hi, e1, hfl, encE.sub, eE_size, eE_isAg, D.put, bE, D.size, D.sizeL, isAg_ag, modeOf, noPtrs, lM, go_sem, ↓reduceIte, Nat.reduceEqDiff, Nat.reduceAdd, Nat.reduceLeDiff, Nat.reduceBneDiff, Nat.reduceLT, iL, iN]
   refine callQ_self (ds := [eE l.2[i]]) (by rfl) (hc1 g0 hg _ (okE_tree hE) (by omega)) ?_
   simp +contextual -implicitDefEqProofs only [hlt, eT, bE, D.size, modeOf, noPtrs, lM, go_sem, ↓reduceIte, Nat.reduceEqDiff, Nat.reduceLeDiff, Nat.reduceMul, Nat.reduceBEq, Nat.reduceBneDiff, Nat.reduceLT]
   refine ⟨rfl, ⟨by omega, by unfold maxEl; omega, by simp [D.size]⟩, i + 1, by omega, by omega, ?_⟩
   rw [wrap_i64 (by omega) (by omega)]
   exact Ent.to [5] (by simp only [go_sem, ↓reduceIte, Nat.reduceEqDiff, Nat.reduceBEq]; rfl) rfl (by simp [ht, eT]) (by rfl) (by simp only [subEnv, go_sem, ↓reduceIte, Nat.reduceEqDiff] <;> simp)
 ·obtain rfl : i = l.2.length := by omega
  rw [List.take_of_length_le (by simp)]
  simp +contextual -implicitDefEqProofs only [hi, go_sem, ↓reduceIte, Nat.reduceEqDiff, iL]
  refine callQ_self (ds := [.ls (some false) 1 ((l.2.map textE).map eT), eT ⟨#[59, 32]⟩]) (by simp [argsOf, AV.arg, St.unit, lu, eT]; exact List.take_of_length_le (by simp)) (hc2 (some false) (l.2.map textE) ⟨#[59, 32]⟩ (fun t ht => by obtain ⟨e, he, rfl⟩ := List.mem_map.1 ht; have := okE_size hg (hx e he); omega) (by decide) (by simp; omega)) ?_
  simp +contextual -implicitDefEqProofs only [eT, go_sem, ↓reduceIte]
  have hz := listT_size hg hl hx
  rw [show listT l.2 = ⟨#[91]⟩ ++ joinP ⟨#[]⟩ ⟨#[59, 32]⟩ (l.2.map textE) ++ ⟨#[93]⟩ by rw [listT, joinP_pre]] at hz ⊢
  simp only [ByteArray.size_append, bsz, List.size_toArray, lK, lZ] at hz
  exact ⟨by first | (simp only [List.size_toArray, lK, lZ]; omega) | omega, by first | (simp only [List.size_toArray, lK, lZ]; omega) | omega, D.Le.sc_eq rfl⟩

def k_imStepText (f1 f2 f3 : Nat) : RC := (.seq (.r [.b 1 5 0, ⟨none, .mv 2 (.c (.sc (.string ⟨#[]⟩)))⟩]) (.seq (.r [.f 7 0 1, .l 8 1 7, .c 9 f1 [.t 8], ⟨none, .bin 10 .add (.c (.sc (.string ⟨#[97, 120, 105, 111, 109, 32]⟩))) (.t 9)⟩, .m 3 10]) (.seq (.seq (.r [.f 11 0 1, .l 12 1 11, .o (.bin 13 .lss (.t 12) (.ci 0))]) (.cond (.t 13) (.r [.f 14 0 1, .l 15 1 14, .o (.bin 16 .sub (.c (.sc (.int .i64 (-1)))) (.t 15)), .c 17 f1 [.t 16], ⟨none, .bin 18 .add (.c (.sc (.string ⟨#[108, 101, 109, 109, 97, 32]⟩))) (.t 17)⟩, .m 3 18]) .skip)) (.seq (.seq (.r [.f 19 1 1, .l 20 1 19]) (.cond (.t 20) (.r [.m 21 3, ⟨none, .bin 22 .add (.t 21) (.c (.sc (.string ⟨#[32, 60, 32]⟩)))⟩, .m 3 22]) (.r [.m 23 3, ⟨none, .bin 24 .add (.t 23) (.c (.sc (.string ⟨#[32, 62, 32]⟩)))⟩, .m 3 24]))) (.seq (.r [⟨none, .bs 25 1 (.sc (.string ⟨#[]⟩)) 0 []⟩, .m 4 25]) (.seq (.seq (.r [.f 26 2 1, .l 27 1 26, .o (.len 28 (.t 27)), .v 29 (.ci 0)]) (.blk 0 (.loop (.seq (.r [.o (.bin 30 .lss (.t 29) (.t 28))]) (.seq (.cond (.t 30) .skip (.exit 0)) (.seq (.blk 1 (.seq (.r [.o (.ia 31 1 (.t 27) (.t 29)), .l 32 1 31, .m 6 32]) (.r [.m 33 4, .m 34 6, .c 35 f1 [.t 34], ⟨none, .bs 36 1 (.sc (.string ⟨#[]⟩)) 1 [(0, (.t 35))]⟩, .o (.app 37 1 16 (.t 33) (.t 36)), .m 4 37]))) (.r [.o (.bin 38 .add (.t 29) (.ci 1)), .m 29 38]))))))) (.seq (.seq (.r [.m 39 4, .o (.len 40 (.t 39)), .q 41 40 0]) (.cond (.t 41) (.r [⟨none, .bs 42 1 (.sc (.string ⟨#[]⟩)) 1 [(0, (.c (.sc (.string ⟨#[45]⟩))))]⟩, .m 4 42]) .skip)) (.seq (.reg true [.m 43 3, .m 44 4, ⟨none, .call (some 45) f2 [.t 44, (.c (.sc (.string ⟨#[46]⟩)))]⟩, .o (.bin 46 .add (.t 43) (.t 45)), ⟨none, .bin 47 .add (.t 46) (.c (.sc (.string ⟨#[32]⟩)))⟩, .f 48 3 1, .l 49 1 48, .c 50 f3 [.t 49], .o (.bin 51 .add (.t 47) (.t 50)), ⟨none, .bin 52 .add (.t 51) (.c (.sc (.string ⟨#[32]⟩)))⟩, .f 53 4 1, .l 54 1 53, .c 55 f3 [.t 54], .o (.bin 56 .add (.t 52) (.t 55)), ⟨none, .bin 57 .add (.t 56) (.c (.sc (.string ⟨#[10]⟩)))⟩, .m 2 57]) .ret))))))))
def K_imStepText (P : Program) (fno : Nat) : Prop := ∀ (g0 : Int × Int) (hg : okG g0 = true) (s : Stp) (hs : okSt g0 s = true), AF P fno [eSt s] (.own (eT (stepT s)))
theorem a_imStepText {P : Program} (hm : P.follows .mixedOrders = true) {g f1 f2 f3 : Nat} (hr : resF P g = some (58, k_imStepText f1 f2 f3, [.t 2])) (hc1 : K_imDecimalN P f1) (hc2 : K_join P f2) (hc3 : K_imListText P f3) : K_imStepText P g := by
 intro g0 hg s hs
 obtain ⟨u, bk, ⟨pn, pl⟩, ⟨tn, tl⟩, ⟨an, al⟩⟩ := s
 obtain ⟨hU, hP, hPx, hTl, hAl, hTx, hAx⟩ := okSt_and hs
 simp only at hU hP hPx hTl hAl hTx hAx
 have d0 := decB_size (n := u.toNat)
 have d1 := decB_size (n := (-1 - u).toNat)
 obtain ⟨sd, hsd, hcd⟩ := (hc1).2 u (by omega) (by omega)
 refine af_of_res hr hm rfl fun hb => ?_
 by_cases hu : u < 0
 ·have hw : IntKind.i64.wrap (-1 - u) = (((-1 - u).toNat : Nat) : Int) := by rw [wrap_i64 (by omega) (by omega)]; omega
  have hue : useT u = ⟨#[108, 101, 109, 109, 97, 32]⟩ ++ decB (-1 - u).toNat := by simp only [useT, hu, if_true]
  simp +contextual -implicitDefEqProofs only [k_imStepText, eSt, eI, eB, eT, D.size, D.sizeL, sub_agf, isAg_ag, D.at, List.getD_cons_zero, go_sem, ↓reduceIte, Nat.reduceEqDiff, Nat.reduceAdd, Nat.reduceLeDiff, Nat.reduceLT]
  refine callQ_self (ds := [eI u]) (by rfl) hcd ?_
  simp +contextual -implicitDefEqProofs only [hu, hw, eT, sub_agf, isAg_ag, D.at, List.getD_cons_zero, go_sem, ↓reduceIte, Nat.reduceEqDiff, Nat.reduceLeDiff, Nat.reduceLT]
  refine ⟨by first | (simp only [List.size_toArray, lK, lZ]; omega) | omega, callQ_self (ds := [eI ((-1 - u).toNat : Nat)]) (by rfl) ((hc1).1 (-1 - u).toNat (by omega)) ?_⟩
  simp +contextual -implicitDefEqProofs only [eT, sub_agf, isAg_ag, D.at, List.getD_cons_zero, List.getD_cons_succ, lM, go_sem, ↓reduceIte, Nat.reduceEqDiff, Nat.reduceAdd, Nat.reduceLeDiff, Nat.reduceBneDiff, Nat.reduceLT]
  refine ⟨by first | (simp only [List.size_toArray, lK, lZ]; omega) | omega, ?_⟩
  cases bk
  ·simp +contextual -implicitDefEqProofs only [go_sem]
   refine ⟨by first | (simp only [List.size_toArray, lK, lZ]; omega) | omega, ?_⟩
   rw [show stepT (u, false, (pn, pl), (tn, tl), (an, al)) = joinP (useT u ++ backT false) ⟨#[46]⟩ (pathL pl) ++ dashT pl ++ ⟨#[32]⟩ ++ listT tl ++ ⟨#[32]⟩ ++ listT al ++ ⟨#[10]⟩ from rfl, hue, show backT false = ⟨#[32, 62, 32]⟩ from rfl]
   generalize hH : (⟨#[108, 101, 109, 109, 97, 32]⟩ ++ decB (-1 - u).toNat ++ ⟨#[32, 62, 32]⟩ : ByteArray) = H
   have hzH : H.size ≤ 11 := by
    rw [← hH]
    simp only [ByteArray.size_append, bsz, List.size_toArray, lK, lZ]
    omega
   clear hH
   refine vc_onU (α := Nat) [4, 6, 25, 29, 30, 31, 32, 33, 34, 35, 36, 37, 38] (fun i => [(29, .im none (.sc (.int .i64 i))), (4, .sm 25 0 i)]) (fun i => [(25, .ar true (some false) 1 (((pathL pl).take i).map eT)), (1, .ar false (some false) 5 [.ag [.sc (.int .i64 u), .sc (.bool false), .ls pn 1 (pl.map eI), .ls tn 3 (tl.map eE), .ls an 3 (al.map eE)]])]) (fun i => i ≤ pl.length) (fun i => pl.length - i) 0 (Ent.to [] (by simp only [go_sem]; rfl) rfl (by simp) (by rfl) (by simp only [subEnv, go_sem, ↓reduceIte, Nat.reduceEqDiff, keep, memN] <;> simp)) (Nat.zero_le _) ?_
   intro i hi0
   by_cases hi : i < pl.length
   ·have e1 := at_map (f := eI) hi
    have hq := hPx _ (List.getElem_mem hi)
    have hqe : pl[i] = ((pl[i].toNat : Nat) : Int) := by omega
    rw [hqe] at e1
    have dq := decB_size (n := pl[i].toNat)
    have ht : (pathL pl).take (i + 1) = ((pathL pl).take i) ++ [decB pl[i].toNat] := by rw [List.take_add_one]; simp [pathL, hi]
    have hlt : ((pathL pl).take i).length = i := by simp [pathL]; omega
    simp +contextual -implicitDefEqProofs only [hi, e1, eI, D.size, sub_sc, isAg_sc, lM, go_sem, ↓reduceIte, Nat.reduceEqDiff, Nat.reduceLeDiff, Nat.reduceLT, iL, iN]
    refine callQ_self (ds := [eI (pl[i].toNat : Nat)]) (by rfl) ((hc1).1 pl[i].toNat (by omega)) ?_
    simp +contextual -implicitDefEqProofs only [hlt, eT, bE, D.size, modeOf, noPtrs, lM, go_sem, ↓reduceIte, Nat.reduceEqDiff, Nat.reduceLeDiff, Nat.reduceMul, Nat.reduceBEq, Nat.reduceBneDiff, Nat.reduceLT]
    refine ⟨rfl, ⟨by omega, by unfold maxEl; omega, by simp [D.size]⟩, i + 1, by omega, by omega, ?_⟩
    rw [wrap_i64 (by omega) (by omega)]
    exact Ent.to [] (by simp only [go_sem]; rfl) rfl (by simp [ht, eT]) (by rfl) (by simp only [subEnv, go_sem, ↓reduceIte, Nat.reduceEqDiff] <;> simp)
   ·obtain rfl : i = pl.length := by omega
    have hz := pathL_size (s := H) (l := pl)
    rw [List.take_of_length_le (by simp [pathL])]
    have l1 := listT_size hg (by omega) hTx
    have l2 := listT_size hg hAl hAx
    have hpL : (pathL pl).length = pl.length := by simp [pathL]
    rw [joinP_pre] at hz
    rw [joinP_pre (s := H)]
    simp only [ByteArray.size_append] at hz
    by_cases hp0 : pl.length = 0
    ·have hpl : pl = [] := List.eq_nil_of_length_eq_zero hp0
     subst hpl
     simp +contextual -implicitDefEqProofs only [Int.cast_ofNat_Int, Int.reduceLT, bE, D.size, pathL, lN, lZ, go_sem, ↓reduceIte, Nat.reduceEqDiff, Nat.reduceLeDiff, Nat.reduceMul, Nat.reduceBneDiff, Nat.reduceLT]
     refine ⟨rfl, callQ_self (ds := [.ls (some false) 1 ([⟨#[45]⟩].map eT), eT ⟨#[46]⟩]) (by rfl) (hc2 (some false) [⟨#[45]⟩] ⟨#[46]⟩ (fun t ht => by simp at ht; subst ht; decide) (by decide) (by decide)) ?_⟩
     rw [show joinP ⟨#[]⟩ ⟨#[46]⟩ [⟨#[45]⟩] = ⟨#[45]⟩ from rfl]
     simp +contextual -implicitDefEqProofs only [eT, sub_agf, isAg_ag, List.getD_cons_zero, List.getD_cons_succ, go_sem, ↓reduceIte, Nat.reduceEqDiff, Nat.reduceAdd, Nat.reduceLeDiff, Nat.reduceLT]
     refine ⟨by first | (simp only [List.size_toArray, lK, lZ]; omega) | omega, by first | (simp only [List.size_toArray, lK, lZ]; omega) | omega, callQ_self (ds := [eS 3 eE (tn, tl)]) (by rfl) (hc3 g0 hg (tn, tl) (by show tl.length ≤ 4; omega) hTx) ?_⟩
     simp +contextual -implicitDefEqProofs only [eT, sub_agf, isAg_ag, List.getD_cons_zero, List.getD_cons_succ, go_sem, ↓reduceIte, Nat.reduceEqDiff, Nat.reduceAdd, Nat.reduceLeDiff, Nat.reduceLT]
     refine ⟨by first | (simp only [List.size_toArray, lK, lZ]; omega) | omega, by first | (simp only [List.size_toArray, lK, lZ]; omega) | omega, callQ_self (ds := [eS 3 eE (an, al)]) (by rfl) (hc3 g0 hg (an, al) hAl hAx) ?_⟩
     simp +contextual -implicitDefEqProofs only [eT, go_sem, ↓reduceIte, Nat.reduceEqDiff]
     exact ⟨by first | (simp only [List.size_toArray, lK, lZ]; omega) | omega, by first | (simp only [List.size_toArray, lK, lZ]; omega) | omega, D.Le.sc_eq (by rw [joinP_nil, app_e]; rfl)⟩
    ·have hd : dashT pl = ⟨#[]⟩ := by
      cases pl with
      | nil => exact absurd rfl hp0
      | cons y r => rfl
     have hpe : ((pl.length : Int) == 0) = false := by simp; exact fun e => hp0 (by rw [e]; rfl)
     simp +contextual -implicitDefEqProofs only [hi, hpe, go_sem, ↓reduceIte, Nat.reduceEqDiff, iL]
     refine callQ_self (ds := [.ls (some false) 1 ((pathL pl).map eT), eT ⟨#[46]⟩]) (by simp [argsOf, AV.arg, St.unit, lu, eT, hpL]; exact List.take_of_length_le (by simp [hpL])) (hc2 (some false) (pathL pl) ⟨#[46]⟩ (fun t ht => by obtain ⟨x, _, rfl⟩ := List.mem_map.1 ht; have := decB_size (n := x.toNat); omega) (by decide) (by omega)) ?_
     simp +contextual -implicitDefEqProofs only [eT, sub_agf, isAg_ag, List.getD_cons_zero, List.getD_cons_succ, go_sem, ↓reduceIte, Nat.reduceEqDiff, Nat.reduceAdd, Nat.reduceLeDiff, Nat.reduceLT]
     refine ⟨by first | (simp only [ByteArray.size_append, bsz, List.size_toArray, lK, lZ]; omega) | omega, by first | (simp only [List.size_toArray, lK, lZ]; omega) | omega, callQ_self (ds := [eS 3 eE (tn, tl)]) (by rfl) (hc3 g0 hg (tn, tl) (by show tl.length ≤ 4; omega) hTx) ?_⟩
     simp +contextual -implicitDefEqProofs only [eT, sub_agf, isAg_ag, List.getD_cons_zero, List.getD_cons_succ, go_sem, ↓reduceIte, Nat.reduceEqDiff, Nat.reduceAdd, Nat.reduceLeDiff, Nat.reduceLT]
     refine ⟨by first | (simp only [List.size_toArray, lK, lZ]; omega) | omega, by first | (simp only [List.size_toArray, lK, lZ]; omega) | omega, callQ_self (ds := [eS 3 eE (an, al)]) (by rfl) (hc3 g0 hg (an, al) hAl hAx) ?_⟩
     simp +contextual -implicitDefEqProofs only [eT, go_sem, ↓reduceIte, Nat.reduceEqDiff]
     exact ⟨by first | (simp only [List.size_toArray, lK, lZ]; omega) | omega, by first | (simp only [List.size_toArray, lK, lZ]; omega) | omega, D.Le.sc_eq (by rw [hd, app_e])⟩
  ·simp +contextual -implicitDefEqProofs only [go_sem]
   refine ⟨by first | (simp only [List.size_toArray, lK, lZ]; omega) | omega, ?_⟩
   rw [show stepT (u, true, (pn, pl), (tn, tl), (an, al)) = joinP (useT u ++ backT true) ⟨#[46]⟩ (pathL pl) ++ dashT pl ++ ⟨#[32]⟩ ++ listT tl ++ ⟨#[32]⟩ ++ listT al ++ ⟨#[10]⟩ from rfl, hue, show backT true = ⟨#[32, 60, 32]⟩ from rfl]
   generalize hH : (⟨#[108, 101, 109, 109, 97, 32]⟩ ++ decB (-1 - u).toNat ++ ⟨#[32, 60, 32]⟩ : ByteArray) = H
   have hzH : H.size ≤ 11 := by
    rw [← hH]
    simp only [ByteArray.size_append, bsz, List.size_toArray, lK, lZ]
    omega
   clear hH
   refine vc_onU (α := Nat) [4, 6, 25, 29, 30, 31, 32, 33, 34, 35, 36, 37, 38] (fun i => [(29, .im none (.sc (.int .i64 i))), (4, .sm 25 0 i)]) (fun i => [(25, .ar true (some false) 1 (((pathL pl).take i).map eT)), (1, .ar false (some false) 5 [.ag [.sc (.int .i64 u), .sc (.bool true), .ls pn 1 (pl.map eI), .ls tn 3 (tl.map eE), .ls an 3 (al.map eE)]])]) (fun i => i ≤ pl.length) (fun i => pl.length - i) 0 (Ent.to [] (by simp only [go_sem]; rfl) rfl (by simp) (by rfl) (by simp only [subEnv, go_sem, ↓reduceIte, Nat.reduceEqDiff, keep, memN] <;> simp)) (Nat.zero_le _) ?_
   intro i hi0
   by_cases hi : i < pl.length
   ·have e1 := at_map (f := eI) hi
    have hq := hPx _ (List.getElem_mem hi)
    have hqe : pl[i] = ((pl[i].toNat : Nat) : Int) := by omega
    rw [hqe] at e1
    have dq := decB_size (n := pl[i].toNat)
    have ht : (pathL pl).take (i + 1) = ((pathL pl).take i) ++ [decB pl[i].toNat] := by rw [List.take_add_one]; simp [pathL, hi]
    have hlt : ((pathL pl).take i).length = i := by simp [pathL]; omega
    simp +contextual -implicitDefEqProofs only [hi, e1, eI, D.size, sub_sc, isAg_sc, lM, go_sem, ↓reduceIte, Nat.reduceEqDiff, Nat.reduceLeDiff, Nat.reduceLT, iL, iN]
    refine callQ_self (ds := [eI (pl[i].toNat : Nat)]) (by rfl) ((hc1).1 pl[i].toNat (by omega)) ?_
    simp +contextual -implicitDefEqProofs only [hlt, eT, bE, D.size, modeOf, noPtrs, lM, go_sem, ↓reduceIte, Nat.reduceEqDiff, Nat.reduceLeDiff, Nat.reduceMul, Nat.reduceBEq, Nat.reduceBneDiff, Nat.reduceLT]
    refine ⟨rfl, ⟨by omega, by unfold maxEl; omega, by simp [D.size]⟩, i + 1, by omega, by omega, ?_⟩
    rw [wrap_i64 (by omega) (by omega)]
    exact Ent.to [] (by simp only [go_sem]; rfl) rfl (by simp [ht, eT]) (by rfl) (by simp only [subEnv, go_sem, ↓reduceIte, Nat.reduceEqDiff] <;> simp)
   ·obtain rfl : i = pl.length := by omega
    have hz := pathL_size (s := H) (l := pl)
    rw [List.take_of_length_le (by simp [pathL])]
    have l1 := listT_size hg (by omega) hTx
    have l2 := listT_size hg hAl hAx
    have hpL : (pathL pl).length = pl.length := by simp [pathL]
    rw [joinP_pre] at hz
    rw [joinP_pre (s := H)]
    simp only [ByteArray.size_append] at hz
    by_cases hp0 : pl.length = 0
    ·have hpl : pl = [] := List.eq_nil_of_length_eq_zero hp0
     subst hpl
     simp +contextual -implicitDefEqProofs only [Int.cast_ofNat_Int, Int.reduceLT, bE, D.size, pathL, lN, lZ, go_sem, ↓reduceIte, Nat.reduceEqDiff, Nat.reduceLeDiff, Nat.reduceMul, Nat.reduceBneDiff, Nat.reduceLT]
     refine ⟨rfl, callQ_self (ds := [.ls (some false) 1 ([⟨#[45]⟩].map eT), eT ⟨#[46]⟩]) (by rfl) (hc2 (some false) [⟨#[45]⟩] ⟨#[46]⟩ (fun t ht => by simp at ht; subst ht; decide) (by decide) (by decide)) ?_⟩
     rw [show joinP ⟨#[]⟩ ⟨#[46]⟩ [⟨#[45]⟩] = ⟨#[45]⟩ from rfl]
     simp +contextual -implicitDefEqProofs only [eT, sub_agf, isAg_ag, List.getD_cons_zero, List.getD_cons_succ, go_sem, ↓reduceIte, Nat.reduceEqDiff, Nat.reduceAdd, Nat.reduceLeDiff, Nat.reduceLT]
     refine ⟨by first | (simp only [List.size_toArray, lK, lZ]; omega) | omega, by first | (simp only [List.size_toArray, lK, lZ]; omega) | omega, callQ_self (ds := [eS 3 eE (tn, tl)]) (by rfl) (hc3 g0 hg (tn, tl) (by show tl.length ≤ 4; omega) hTx) ?_⟩
     simp +contextual -implicitDefEqProofs only [eT, sub_agf, isAg_ag, List.getD_cons_zero, List.getD_cons_succ, go_sem, ↓reduceIte, Nat.reduceEqDiff, Nat.reduceAdd, Nat.reduceLeDiff, Nat.reduceLT]
     refine ⟨by first | (simp only [List.size_toArray, lK, lZ]; omega) | omega, by first | (simp only [List.size_toArray, lK, lZ]; omega) | omega, callQ_self (ds := [eS 3 eE (an, al)]) (by rfl) (hc3 g0 hg (an, al) hAl hAx) ?_⟩
     simp +contextual -implicitDefEqProofs only [eT, go_sem, ↓reduceIte, Nat.reduceEqDiff]
     exact ⟨by first | (simp only [List.size_toArray, lK, lZ]; omega) | omega, by first | (simp only [List.size_toArray, lK, lZ]; omega) | omega, D.Le.sc_eq (by rw [joinP_nil, app_e]; rfl)⟩
    ·have hd : dashT pl = ⟨#[]⟩ := by
      cases pl with
      | nil => exact absurd rfl hp0
      | cons y r => rfl
     have hpe : ((pl.length : Int) == 0) = false := by simp; exact fun e => hp0 (by rw [e]; rfl)
     simp +contextual -implicitDefEqProofs only [hi, hpe, go_sem, ↓reduceIte, Nat.reduceEqDiff, iL]
     refine callQ_self (ds := [.ls (some false) 1 ((pathL pl).map eT), eT ⟨#[46]⟩]) (by simp [argsOf, AV.arg, St.unit, lu, eT, hpL]; exact List.take_of_length_le (by simp [hpL])) (hc2 (some false) (pathL pl) ⟨#[46]⟩ (fun t ht => by obtain ⟨x, _, rfl⟩ := List.mem_map.1 ht; have := decB_size (n := x.toNat); omega) (by decide) (by omega)) ?_
     simp +contextual -implicitDefEqProofs only [eT, sub_agf, isAg_ag, List.getD_cons_zero, List.getD_cons_succ, go_sem, ↓reduceIte, Nat.reduceEqDiff, Nat.reduceAdd, Nat.reduceLeDiff, Nat.reduceLT]
     refine ⟨by first | (simp only [ByteArray.size_append, bsz, List.size_toArray, lK, lZ]; omega) | omega, by first | (simp only [List.size_toArray, lK, lZ]; omega) | omega, callQ_self (ds := [eS 3 eE (tn, tl)]) (by rfl) (hc3 g0 hg (tn, tl) (by show tl.length ≤ 4; omega) hTx) ?_⟩
     simp +contextual -implicitDefEqProofs only [eT, sub_agf, isAg_ag, List.getD_cons_zero, List.getD_cons_succ, go_sem, ↓reduceIte, Nat.reduceEqDiff, Nat.reduceAdd, Nat.reduceLeDiff, Nat.reduceLT]
     refine ⟨by first | (simp only [List.size_toArray, lK, lZ]; omega) | omega, by first | (simp only [List.size_toArray, lK, lZ]; omega) | omega, callQ_self (ds := [eS 3 eE (an, al)]) (by rfl) (hc3 g0 hg (an, al) hAl hAx) ?_⟩
     simp +contextual -implicitDefEqProofs only [eT, go_sem, ↓reduceIte, Nat.reduceEqDiff]
     exact ⟨by first | (simp only [List.size_toArray, lK, lZ]; omega) | omega, by first | (simp only [List.size_toArray, lK, lZ]; omega) | omega, D.Le.sc_eq (by rw [hd, app_e])⟩
 ·have hue : useT u = ⟨#[97, 120, 105, 111, 109, 32]⟩ ++ decB u.toNat := by simp only [useT, hu, if_false]
  have hun : u = ((u.toNat : Nat) : Int) := by omega
  simp +contextual -implicitDefEqProofs only [k_imStepText, eSt, eI, eB, eT, D.size, D.sizeL, sub_agf, isAg_ag, D.at, List.getD_cons_zero, go_sem, ↓reduceIte, Nat.reduceEqDiff, Nat.reduceAdd, Nat.reduceLeDiff, Nat.reduceLT]
  refine callQ_self (ds := [eI u]) (by rfl) (by have := (hc1).1 u.toNat (by omega); rw [← hun] at this; exact this) ?_
  simp +contextual -implicitDefEqProofs only [hu, eT, sub_agf, isAg_ag, D.at, List.getD_cons_zero, List.getD_cons_succ, lM, go_sem, ↓reduceIte, Nat.reduceEqDiff, Nat.reduceAdd, Nat.reduceLeDiff, Nat.reduceBneDiff, Nat.reduceLT]
  refine ⟨by first | (simp only [List.size_toArray, lK, lZ]; omega) | omega, ?_⟩
  cases bk
  ·simp +contextual -implicitDefEqProofs only [go_sem]
   refine ⟨by first | (simp only [List.size_toArray, lK, lZ]; omega) | omega, ?_⟩
   rw [show stepT (u, false, (pn, pl), (tn, tl), (an, al)) = joinP (useT u ++ backT false) ⟨#[46]⟩ (pathL pl) ++ dashT pl ++ ⟨#[32]⟩ ++ listT tl ++ ⟨#[32]⟩ ++ listT al ++ ⟨#[10]⟩ from rfl, hue, show backT false = ⟨#[32, 62, 32]⟩ from rfl]
   generalize hH : (⟨#[97, 120, 105, 111, 109, 32]⟩ ++ decB u.toNat ++ ⟨#[32, 62, 32]⟩ : ByteArray) = H
   have hzH : H.size ≤ 11 := by
    rw [← hH]
    simp only [ByteArray.size_append, bsz, List.size_toArray, lK, lZ]
    omega
   clear hH
   refine vc_onU (α := Nat) [4, 6, 25, 29, 30, 31, 32, 33, 34, 35, 36, 37, 38] (fun i => [(29, .im none (.sc (.int .i64 i))), (4, .sm 25 0 i)]) (fun i => [(25, .ar true (some false) 1 (((pathL pl).take i).map eT)), (1, .ar false (some false) 5 [.ag [.sc (.int .i64 u), .sc (.bool false), .ls pn 1 (pl.map eI), .ls tn 3 (tl.map eE), .ls an 3 (al.map eE)]])]) (fun i => i ≤ pl.length) (fun i => pl.length - i) 0 (Ent.to [] (by simp only [go_sem]; rfl) rfl (by simp) (by rfl) (by simp only [subEnv, go_sem, ↓reduceIte, Nat.reduceEqDiff, keep, memN] <;> simp)) (Nat.zero_le _) ?_
   intro i hi0
   by_cases hi : i < pl.length
   ·have e1 := at_map (f := eI) hi
    have hq := hPx _ (List.getElem_mem hi)
    have hqe : pl[i] = ((pl[i].toNat : Nat) : Int) := by omega
    rw [hqe] at e1
    have dq := decB_size (n := pl[i].toNat)
    have ht : (pathL pl).take (i + 1) = ((pathL pl).take i) ++ [decB pl[i].toNat] := by rw [List.take_add_one]; simp [pathL, hi]
    have hlt : ((pathL pl).take i).length = i := by simp [pathL]; omega
    simp +contextual -implicitDefEqProofs only [hi, e1, eI, D.size, sub_sc, isAg_sc, lM, go_sem, ↓reduceIte, Nat.reduceEqDiff, Nat.reduceLeDiff, Nat.reduceLT, iL, iN]
    refine callQ_self (ds := [eI (pl[i].toNat : Nat)]) (by rfl) ((hc1).1 pl[i].toNat (by omega)) ?_
    simp +contextual -implicitDefEqProofs only [hlt, eT, bE, D.size, modeOf, noPtrs, lM, go_sem, ↓reduceIte, Nat.reduceEqDiff, Nat.reduceLeDiff, Nat.reduceMul, Nat.reduceBEq, Nat.reduceBneDiff, Nat.reduceLT]
    refine ⟨rfl, ⟨by omega, by unfold maxEl; omega, by simp [D.size]⟩, i + 1, by omega, by omega, ?_⟩
    rw [wrap_i64 (by omega) (by omega)]
    exact Ent.to [] (by simp only [go_sem]; rfl) rfl (by simp [ht, eT]) (by rfl) (by simp only [subEnv, go_sem, ↓reduceIte, Nat.reduceEqDiff] <;> simp)
   ·obtain rfl : i = pl.length := by omega
    have hz := pathL_size (s := H) (l := pl)
    rw [List.take_of_length_le (by simp [pathL])]
    have l1 := listT_size hg (by omega) hTx
    have l2 := listT_size hg hAl hAx
    have hpL : (pathL pl).length = pl.length := by simp [pathL]
    rw [joinP_pre] at hz
    rw [joinP_pre (s := H)]
    simp only [ByteArray.size_append] at hz
    by_cases hp0 : pl.length = 0
    ·have hpl : pl = [] := List.eq_nil_of_length_eq_zero hp0
     subst hpl
     simp +contextual -implicitDefEqProofs only [Int.cast_ofNat_Int, Int.reduceLT, bE, D.size, pathL, lN, lZ, go_sem, ↓reduceIte, Nat.reduceEqDiff, Nat.reduceLeDiff, Nat.reduceMul, Nat.reduceBneDiff, Nat.reduceLT]
     refine ⟨rfl, callQ_self (ds := [.ls (some false) 1 ([⟨#[45]⟩].map eT), eT ⟨#[46]⟩]) (by rfl) (hc2 (some false) [⟨#[45]⟩] ⟨#[46]⟩ (fun t ht => by simp at ht; subst ht; decide) (by decide) (by decide)) ?_⟩
     rw [show joinP ⟨#[]⟩ ⟨#[46]⟩ [⟨#[45]⟩] = ⟨#[45]⟩ from rfl]
     simp +contextual -implicitDefEqProofs only [eT, sub_agf, isAg_ag, List.getD_cons_zero, List.getD_cons_succ, go_sem, ↓reduceIte, Nat.reduceEqDiff, Nat.reduceAdd, Nat.reduceLeDiff, Nat.reduceLT]
     refine ⟨by first | (simp only [List.size_toArray, lK, lZ]; omega) | omega, by first | (simp only [List.size_toArray, lK, lZ]; omega) | omega, callQ_self (ds := [eS 3 eE (tn, tl)]) (by rfl) (hc3 g0 hg (tn, tl) (by show tl.length ≤ 4; omega) hTx) ?_⟩
     simp +contextual -implicitDefEqProofs only [eT, sub_agf, isAg_ag, List.getD_cons_zero, List.getD_cons_succ, go_sem, ↓reduceIte, Nat.reduceEqDiff, Nat.reduceAdd, Nat.reduceLeDiff, Nat.reduceLT]
     refine ⟨by first | (simp only [List.size_toArray, lK, lZ]; omega) | omega, by first | (simp only [List.size_toArray, lK, lZ]; omega) | omega, callQ_self (ds := [eS 3 eE (an, al)]) (by rfl) (hc3 g0 hg (an, al) hAl hAx) ?_⟩
     simp +contextual -implicitDefEqProofs only [eT, go_sem, ↓reduceIte, Nat.reduceEqDiff]
     exact ⟨by first | (simp only [List.size_toArray, lK, lZ]; omega) | omega, by first | (simp only [List.size_toArray, lK, lZ]; omega) | omega, D.Le.sc_eq (by rw [joinP_nil, app_e]; rfl)⟩
    ·have hd : dashT pl = ⟨#[]⟩ := by
      cases pl with
      | nil => exact absurd rfl hp0
      | cons y r => rfl
     have hpe : ((pl.length : Int) == 0) = false := by simp; exact fun e => hp0 (by rw [e]; rfl)
     simp +contextual -implicitDefEqProofs only [hi, hpe, go_sem, ↓reduceIte, Nat.reduceEqDiff, iL]
     refine callQ_self (ds := [.ls (some false) 1 ((pathL pl).map eT), eT ⟨#[46]⟩]) (by simp [argsOf, AV.arg, St.unit, lu, eT, hpL]; exact List.take_of_length_le (by simp [hpL])) (hc2 (some false) (pathL pl) ⟨#[46]⟩ (fun t ht => by obtain ⟨x, _, rfl⟩ := List.mem_map.1 ht; have := decB_size (n := x.toNat); omega) (by decide) (by omega)) ?_
     simp +contextual -implicitDefEqProofs only [eT, sub_agf, isAg_ag, List.getD_cons_zero, List.getD_cons_succ, go_sem, ↓reduceIte, Nat.reduceEqDiff, Nat.reduceAdd, Nat.reduceLeDiff, Nat.reduceLT]
     refine ⟨by first | (simp only [ByteArray.size_append, bsz, List.size_toArray, lK, lZ]; omega) | omega, by first | (simp only [List.size_toArray, lK, lZ]; omega) | omega, callQ_self (ds := [eS 3 eE (tn, tl)]) (by rfl) (hc3 g0 hg (tn, tl) (by show tl.length ≤ 4; omega) hTx) ?_⟩
     simp +contextual -implicitDefEqProofs only [eT, sub_agf, isAg_ag, List.getD_cons_zero, List.getD_cons_succ, go_sem, ↓reduceIte, Nat.reduceEqDiff, Nat.reduceAdd, Nat.reduceLeDiff, Nat.reduceLT]
     refine ⟨by first | (simp only [List.size_toArray, lK, lZ]; omega) | omega, by first | (simp only [List.size_toArray, lK, lZ]; omega) | omega, callQ_self (ds := [eS 3 eE (an, al)]) (by rfl) (hc3 g0 hg (an, al) hAl hAx) ?_⟩
     simp +contextual -implicitDefEqProofs only [eT, go_sem, ↓reduceIte, Nat.reduceEqDiff]
     exact ⟨by first | (simp only [List.size_toArray, lK, lZ]; omega) | omega, by first | (simp only [List.size_toArray, lK, lZ]; omega) | omega, D.Le.sc_eq (by rw [hd, app_e])⟩
  ·simp +contextual -implicitDefEqProofs only [go_sem]
   refine ⟨by first | (simp only [List.size_toArray, lK, lZ]; omega) | omega, ?_⟩
   rw [show stepT (u, true, (pn, pl), (tn, tl), (an, al)) = joinP (useT u ++ backT true) ⟨#[46]⟩ (pathL pl) ++ dashT pl ++ ⟨#[32]⟩ ++ listT tl ++ ⟨#[32]⟩ ++ listT al ++ ⟨#[10]⟩ from rfl, hue, show backT true = ⟨#[32, 60, 32]⟩ from rfl]
   generalize hH : (⟨#[97, 120, 105, 111, 109, 32]⟩ ++ decB u.toNat ++ ⟨#[32, 60, 32]⟩ : ByteArray) = H
   have hzH : H.size ≤ 11 := by
    rw [← hH]
    simp only [ByteArray.size_append, bsz, List.size_toArray, lK, lZ]
    omega
   clear hH
   refine vc_onU (α := Nat) [4, 6, 25, 29, 30, 31, 32, 33, 34, 35, 36, 37, 38] (fun i => [(29, .im none (.sc (.int .i64 i))), (4, .sm 25 0 i)]) (fun i => [(25, .ar true (some false) 1 (((pathL pl).take i).map eT)), (1, .ar false (some false) 5 [.ag [.sc (.int .i64 u), .sc (.bool true), .ls pn 1 (pl.map eI), .ls tn 3 (tl.map eE), .ls an 3 (al.map eE)]])]) (fun i => i ≤ pl.length) (fun i => pl.length - i) 0 (Ent.to [] (by simp only [go_sem]; rfl) rfl (by simp) (by rfl) (by simp only [subEnv, go_sem, ↓reduceIte, Nat.reduceEqDiff, keep, memN] <;> simp)) (Nat.zero_le _) ?_
   intro i hi0
   by_cases hi : i < pl.length
   ·have e1 := at_map (f := eI) hi
    have hq := hPx _ (List.getElem_mem hi)
    have hqe : pl[i] = ((pl[i].toNat : Nat) : Int) := by omega
    rw [hqe] at e1
    have dq := decB_size (n := pl[i].toNat)
    have ht : (pathL pl).take (i + 1) = ((pathL pl).take i) ++ [decB pl[i].toNat] := by rw [List.take_add_one]; simp [pathL, hi]
    have hlt : ((pathL pl).take i).length = i := by simp [pathL]; omega
    simp +contextual -implicitDefEqProofs only [hi, e1, eI, D.size, sub_sc, isAg_sc, lM, go_sem, ↓reduceIte, Nat.reduceEqDiff, Nat.reduceLeDiff, Nat.reduceLT, iL, iN]
    refine callQ_self (ds := [eI (pl[i].toNat : Nat)]) (by rfl) ((hc1).1 pl[i].toNat (by omega)) ?_
    simp +contextual -implicitDefEqProofs only [hlt, eT, bE, D.size, modeOf, noPtrs, lM, go_sem, ↓reduceIte, Nat.reduceEqDiff, Nat.reduceLeDiff, Nat.reduceMul, Nat.reduceBEq, Nat.reduceBneDiff, Nat.reduceLT]
    refine ⟨rfl, ⟨by omega, by unfold maxEl; omega, by simp [D.size]⟩, i + 1, by omega, by omega, ?_⟩
    rw [wrap_i64 (by omega) (by omega)]
    exact Ent.to [] (by simp only [go_sem]; rfl) rfl (by simp [ht, eT]) (by rfl) (by simp only [subEnv, go_sem, ↓reduceIte, Nat.reduceEqDiff] <;> simp)
   ·obtain rfl : i = pl.length := by omega
    have hz := pathL_size (s := H) (l := pl)
    rw [List.take_of_length_le (by simp [pathL])]
    have l1 := listT_size hg (by omega) hTx
    have l2 := listT_size hg hAl hAx
    have hpL : (pathL pl).length = pl.length := by simp [pathL]
    rw [joinP_pre] at hz
    rw [joinP_pre (s := H)]
    simp only [ByteArray.size_append] at hz
    by_cases hp0 : pl.length = 0
    ·have hpl : pl = [] := List.eq_nil_of_length_eq_zero hp0
     subst hpl
     simp +contextual -implicitDefEqProofs only [Int.cast_ofNat_Int, Int.reduceLT, bE, D.size, pathL, lN, lZ, go_sem, ↓reduceIte, Nat.reduceEqDiff, Nat.reduceLeDiff, Nat.reduceMul, Nat.reduceBneDiff, Nat.reduceLT]
     refine ⟨rfl, callQ_self (ds := [.ls (some false) 1 ([⟨#[45]⟩].map eT), eT ⟨#[46]⟩]) (by rfl) (hc2 (some false) [⟨#[45]⟩] ⟨#[46]⟩ (fun t ht => by simp at ht; subst ht; decide) (by decide) (by decide)) ?_⟩
     rw [show joinP ⟨#[]⟩ ⟨#[46]⟩ [⟨#[45]⟩] = ⟨#[45]⟩ from rfl]
     simp +contextual -implicitDefEqProofs only [eT, sub_agf, isAg_ag, List.getD_cons_zero, List.getD_cons_succ, go_sem, ↓reduceIte, Nat.reduceEqDiff, Nat.reduceAdd, Nat.reduceLeDiff, Nat.reduceLT]
     refine ⟨by first | (simp only [List.size_toArray, lK, lZ]; omega) | omega, by first | (simp only [List.size_toArray, lK, lZ]; omega) | omega, callQ_self (ds := [eS 3 eE (tn, tl)]) (by rfl) (hc3 g0 hg (tn, tl) (by show tl.length ≤ 4; omega) hTx) ?_⟩
     simp +contextual -implicitDefEqProofs only [eT, sub_agf, isAg_ag, List.getD_cons_zero, List.getD_cons_succ, go_sem, ↓reduceIte, Nat.reduceEqDiff, Nat.reduceAdd, Nat.reduceLeDiff, Nat.reduceLT]
     refine ⟨by first | (simp only [List.size_toArray, lK, lZ]; omega) | omega, by first | (simp only [List.size_toArray, lK, lZ]; omega) | omega, callQ_self (ds := [eS 3 eE (an, al)]) (by rfl) (hc3 g0 hg (an, al) hAl hAx) ?_⟩
     simp +contextual -implicitDefEqProofs only [eT, go_sem, ↓reduceIte, Nat.reduceEqDiff]
     exact ⟨by first | (simp only [List.size_toArray, lK, lZ]; omega) | omega, by first | (simp only [List.size_toArray, lK, lZ]; omega) | omega, D.Le.sc_eq (by rw [joinP_nil, app_e]; rfl)⟩
    ·have hd : dashT pl = ⟨#[]⟩ := by
      cases pl with
      | nil => exact absurd rfl hp0
      | cons y r => rfl
     have hpe : ((pl.length : Int) == 0) = false := by simp; exact fun e => hp0 (by rw [e]; rfl)
     simp +contextual -implicitDefEqProofs only [hi, hpe, go_sem, ↓reduceIte, Nat.reduceEqDiff, iL]
     refine callQ_self (ds := [.ls (some false) 1 ((pathL pl).map eT), eT ⟨#[46]⟩]) (by simp [argsOf, AV.arg, St.unit, lu, eT, hpL]; exact List.take_of_length_le (by simp [hpL])) (hc2 (some false) (pathL pl) ⟨#[46]⟩ (fun t ht => by obtain ⟨x, _, rfl⟩ := List.mem_map.1 ht; have := decB_size (n := x.toNat); omega) (by decide) (by omega)) ?_
     simp +contextual -implicitDefEqProofs only [eT, sub_agf, isAg_ag, List.getD_cons_zero, List.getD_cons_succ, go_sem, ↓reduceIte, Nat.reduceEqDiff, Nat.reduceAdd, Nat.reduceLeDiff, Nat.reduceLT]
     refine ⟨by first | (simp only [ByteArray.size_append, bsz, List.size_toArray, lK, lZ]; omega) | omega, by first | (simp only [List.size_toArray, lK, lZ]; omega) | omega, callQ_self (ds := [eS 3 eE (tn, tl)]) (by rfl) (hc3 g0 hg (tn, tl) (by show tl.length ≤ 4; omega) hTx) ?_⟩
     simp +contextual -implicitDefEqProofs only [eT, sub_agf, isAg_ag, List.getD_cons_zero, List.getD_cons_succ, go_sem, ↓reduceIte, Nat.reduceEqDiff, Nat.reduceAdd, Nat.reduceLeDiff, Nat.reduceLT]
     refine ⟨by first | (simp only [List.size_toArray, lK, lZ]; omega) | omega, by first | (simp only [List.size_toArray, lK, lZ]; omega) | omega, callQ_self (ds := [eS 3 eE (an, al)]) (by rfl) (hc3 g0 hg (an, al) hAl hAx) ?_⟩
     simp +contextual -implicitDefEqProofs only [eT, go_sem, ↓reduceIte, Nat.reduceEqDiff]
     exact ⟨by first | (simp only [List.size_toArray, lK, lZ]; omega) | omega, by first | (simp only [List.size_toArray, lK, lZ]; omega) | omega, D.Le.sc_eq (by rw [hd, app_e])⟩

def k_imProofText (f1 f2 f3 f4 f5 : Nat) : RC := (.seq (.r [.b 1 3 0, ⟨none, .mv 2 (.c (.sc (.string ⟨#[]⟩)))⟩]) (.seq (.r [.o (.bld 8 (.ag [(.sc (.pointer none)), (.ls (some true) 1 [])]) []), .o (.zsb 3 78 5), .s 2 3 8]) (.seq (.reg true [.f 9 0 1, .f 10 0 9, .l 11 1 10, .c 12 f1 [.t 11], ⟨none, .bin 13 .add (.c (.sc (.string ⟨#[112, 114, 111, 111, 102, 32]⟩))) (.t 12)⟩, ⟨none, .bin 14 .add (.t 13) (.c (.sc (.string ⟨#[32]⟩)))⟩, .f 15 0 1, .f 16 1 15, .l 17 1 16, .c 18 f1 [.t 17], .o (.bin 19 .add (.t 14) (.t 18)), ⟨none, .bin 20 .add (.t 19) (.c (.sc (.string ⟨#[10]⟩)))⟩, .o (.bwr (some 21) f4 (.t 3) [.t 20])]) (.seq (.seq (.r [.f 22 2 1, .l 23 1 22, .o (.len 24 (.t 23)), .v 25 (.ci 0)]) (.blk 0 (.loop (.seq (.r [.o (.bin 26 .lss (.t 25) (.t 24))]) (.seq (.cond (.t 26) .skip (.exit 0)) (.seq (.blk 1 (.seq (.r [.o (.ia 27 9 (.t 23) (.t 25)), .L 28 9 27, .o (.zer 5 9 (.ag [(.sc (.int .i64 0)), (.sc (.int .i64 0)), (.ls (some true) 3 []), (.sc (.int .i64 0)), (.sc (.int .i64 0)), (.ls (some true) 3 []), (.sc (.int .i64 0)), (.sc (.int .i64 0)), (.ls (some true) 5 [])])), .s 9 5 28]) (.seq (.r [.f 29 0 5, .L 30 3 29, .f 31 3 5, .L 32 3 31, .o (.bld 33 (.ag [(.sc (.int .i64 0)), (.sc (.int .i64 0)), (.ls (some true) 3 []), (.sc (.int .i64 0)), (.sc (.int .i64 0)), (.ls (some true) 3 [])]) [(0, 3, (.t 30)), (3, 3, (.t 32))]), .c 34 f2 [.t 33], ⟨none, .bin 35 .add (.c (.sc (.string ⟨#[99, 108, 97, 105, 109, 32]⟩))) (.t 34)⟩, ⟨none, .bin 36 .add (.t 35) (.c (.sc (.string ⟨#[10]⟩)))⟩, .o (.bwr (some 37) f4 (.t 3) [.t 36])]) (.seq (.seq (.r [.f 38 6 5, .l 39 1 38]) (.blk 2 (.seq (.r [.q 41 39 2, .m 40 41]) (.cond (.t 40) (.r [.f 42 7 5, .l 43 1 42, .c 44 f1 [.t 43], ⟨none, .bin 45 .add (.c (.sc (.string ⟨#[108, 101, 102, 116, 32]⟩))) (.t 44)⟩, ⟨none, .bin 46 .add (.t 45) (.c (.sc (.string ⟨#[10]⟩)))⟩, .o (.bwr (some 47) f4 (.t 3) [.t 46])]) (.seq (.r [.q 49 39 3, .m 48 49]) (.cond (.t 48) (.r [.f 50 7 5, .l 51 1 50, .c 52 f1 [.t 51], ⟨none, .bin 53 .add (.c (.sc (.string ⟨#[114, 105, 103, 104, 116, 32]⟩))) (.t 52)⟩, ⟨none, .bin 54 .add (.t 53) (.c (.sc (.string ⟨#[10]⟩)))⟩, .o (.bwr (some 55) f4 (.t 3) [.t 54])]) .skip)))))) (.seq (.r [.f 56 8 5, .l 57 1 56, .o (.len 58 (.t 57)), .v 59 (.ci 0)]) (.blk 3 (.loop (.seq (.r [.o (.bin 60 .lss (.t 59) (.t 58))]) (.seq (.cond (.t 60) .skip (.exit 3)) (.seq (.blk 4 (.seq (.r [.o (.ia 61 5 (.t 57) (.t 59)), .L 62 5 61, .o (.zer 7 5 (.ag [(.sc (.int .i64 0)), (.sc (.bool false)), (.ls (some true) 1 []), (.ls (some true) 3 []), (.ls (some true) 3 [])])), .s 5 7 62]) (.r [.L 63 5 7, .c 64 f3 [.t 63], .o (.bwr (some 65) f4 (.t 3) [.t 64])]))) (.r [.o (.bin 66 .add (.t 59) (.ci 1)), .m 59 66]))))))))))) (.r [.o (.bin 67 .add (.t 25) (.ci 1)), .m 25 67]))))))) (.seq (.r [.o (.bst 68 f5 (.t 3)), .m 2 68]) .ret)))))
def K_imProofText (P : Program) (fno : Nat) : Prop := ∀ (t a : Nat) (nn : Option Bool) (l : List Cl) (hg : okG ((t : Int), (a : Int)) = true) (ht : t < 100) (ha : a < 100) (hl : l.length ≤ 40) (hx : ∀ x ∈ l, okCl ((t : Int), (a : Int)) x = true), AF P fno [ePf (((t : Int), (a : Int)), nn, l)] (.own (eT (proofT (((t : Int), (a : Int)), nn, l))))
theorem a_imProofText {P : Program} (hm : P.follows .mixedOrders = true) {g f1 f2 f3 f4 f5 : Nat} (hr : resF P g = some (69, k_imProofText f1 f2 f3 f4 f5, [.t 2])) (hc1 : K_imDecimal P f1) (hc2 : K_equationText P f2) (hc3 : K_imStepText P f3) (hc4 : K_wrS P f4) (hc5 : K_bdS P f5) : K_imProofText P g := by
 intro t a nn l hg ht ha hl hx
 have dt := decB_size (n := t)
 have da := decB_size (n := a)
 refine af_of_res hr hm rfl fun hb => ?_
 simp +contextual -implicitDefEqProofs only [k_imProofText, ePf, eI, eT, bE, D.size, D.sizeL, sub_agf, isAg_ag, D.at, List.getD_cons_zero, List.drop_zero, go_sem, ↓reduceIte, Nat.reduceEqDiff, Nat.reduceAdd, Nat.reduceLeDiff, Nat.reduceBEq, Nat.reduceBneDiff, Nat.reduceLT]
 refine callQ_self (ds := [eI (t : Nat)]) (by rfl) (hc1 t ht) ?_
 simp +contextual -implicitDefEqProofs only [eT, sub_agf, isAg_ag, D.at, List.getD_cons_zero, List.getD_cons_succ, go_sem, ↓reduceIte, Nat.reduceEqDiff, Nat.reduceAdd, Nat.reduceLeDiff, Nat.reduceLT]
 refine ⟨by first | (simp only [List.size_toArray, lK, lZ]; omega) | omega, by first | (simp only [List.size_toArray, lK, lZ]; omega) | omega, callQ_self (ds := [eI (a : Nat)]) (by rfl) (hc1 a ha) ?_⟩
 simp +contextual -implicitDefEqProofs only [eT, go_sem, ↓reduceIte, Nat.reduceEqDiff]
 refine ⟨by first | (simp only [List.size_toArray, lK, lZ]; omega) | omega, by first | (simp only [List.size_toArray, lK, lZ]; omega) | omega, ?_⟩
 rw [show proofT (((t : Int), (a : Int)), nn, l) = claimsT (proofHT t a) l from rfl]
 generalize hH : (⟨#[112, 114, 111, 111, 102, 32]⟩ ++ decB t ++ ⟨#[32]⟩ ++ decB a ++ ⟨#[10]⟩ : ByteArray) = H
 have hzH : H.size ≤ 12 := by
  rw [← hH]
  simp only [ByteArray.size_append, bsz, List.size_toArray, lK, lZ]
  omega
 rw [show proofHT t a = H from hH]
 clear hH
 refine bwr_self (T := 78) (E := 5) (t := H) [.sc (.string (H))] (by rfl) (by rfl) (by rfl) (hc4 (H) (by first | (simp only [ByteArray.size_append, bsz, List.size_toArray, lK, lZ]; omega) | omega)) (by first | (simp only [bsz, List.size_toArray, lZ]; omega) | omega) ?_
 simp +contextual -implicitDefEqProofs only [sub_agf, isAg_ag, D.at, List.getD_cons_zero, List.getD_cons_succ, lM, e_app, go_sem, ↓reduceIte, Nat.reduceEqDiff, Nat.reduceAdd, Nat.reduceLeDiff, Nat.reduceBEq, Nat.reduceLT]
 refine vc_onU (α := Nat) [5, 7, 25, 26, 27, 28, 29, 30, 31, 32, 33, 34, 35, 36, 38, 39, 40, 41, 42, 43, 44, 45, 46, 48, 49, 50, 51, 52, 53, 54, 56, 57, 58, 59, 60, 61, 62, 63, 64, 66, 67] (fun i => [(25, .im none (.sc (.int .i64 i)))]) (fun i => [(3, .sb 78 5 (claimsT H (l.take i))), (1, .ar false (some false) 3 [.ag [.sc (.int .i64 t), .sc (.int .i64 a), .ls nn 9 (l.map eCl)]])]) (fun i => i ≤ l.length) (fun i => l.length - i) 0 (Ent.to [] (by simp only [go_sem]; rfl) rfl (by simp [claimsT_nil]) (by rfl) (by simp only [subEnv, go_sem, ↓reduceIte, Nat.reduceEqDiff, keep, memN] <;> simp)) (Nat.zero_le _) ?_
 intro i hi0
 by_cases hi : i < l.length
 ·have e1 := at_map (f := eCl) hi
  have hC := hx _ (List.getElem_mem hi)
  have hct := claimsT_take (s := H) hi
  have hz := claimsT_size hg (s := H) (l := l.take i) fun x hx' => hx x (List.mem_of_mem_take hx')
  rw [List.length_take] at hz
  generalize claimsT H (l.take i) = s at hct hz ⊢
  generalize l[i] = cl at hct hC e1
  obtain ⟨⟨ck, cn, cnn, cks⟩, ⟨bk, bn, bnn, bks⟩, ru, rf, sn, sl⟩ := cl
  obtain ⟨o1, o2, hru, hrf, hsl, hsx⟩ := okCl_and hC
  simp only at o1 o2 hru hrf hsl hsx
  obtain ⟨rf, rfl⟩ : ∃ n : Nat, rf = n := ⟨rf.toNat, by omega⟩
  have dr := decB_size (n := rf)
  have hzl := lineT_size (q := ((.mk ck cn cnn cks), (.mk bk bn bnn bks))) hg o1 o2
  have z1 := okE_size hg o1
  have z2 := okE_size hg o2
  simp +contextual -implicitDefEqProofs only [hi, e1, eCl, eI, Ex.k_mk, Ex.n_mk, Ex.nn_mk, Ex.ks_mk, D.put, D.cells, bE, D.size, D.sizeL, sub_agt, isAg_ag, List.drop_zero, List.take_succ_cons, List.take_zero, List.drop_succ_cons, modeOf, noPtrs, lM, go_sem, ↓reduceIte, Nat.reduceEqDiff, Nat.reduceAdd, Nat.reduceLeDiff, Nat.reduceBEq, Nat.reduceBneDiff, Nat.reduceLT, Nat.reduceSub, iL, iN]
  refine callQ_self (ds := [eQ ((.mk ck cn cnn cks), (.mk bk bn bnn bks))]) (by rfl) (hc2 ((t : Int), (a : Int)) hg ((.mk ck cn cnn cks), (.mk bk bn bnn bks)) (okE_tree o1) (okE_tree o2) (by show (textE (.mk ck cn cnn cks)).size ≤ _; omega) (by show (textE (.mk bk bn bnn bks)).size ≤ _; omega)) ?_
  simp +contextual -implicitDefEqProofs only [eT, go_sem, ↓reduceIte, Nat.reduceEqDiff]
  refine ⟨by first | (simp only [List.size_toArray, lK, lZ]; omega) | omega, by first | (simp only [List.size_toArray, lK, lZ]; omega) | omega, ?_⟩
  refine bwr_self (T := 78) (E := 5) (t := ⟨#[99, 108, 97, 105, 109, 32]⟩ ++ lineT ((.mk ck cn cnn cks), (.mk bk bn bnn bks)) ++ ⟨#[10]⟩) [.sc (.string (⟨#[99, 108, 97, 105, 109, 32]⟩ ++ lineT ((.mk ck cn cnn cks), (.mk bk bn bnn bks)) ++ ⟨#[10]⟩))] (by rfl) (by rfl) (by rfl) (hc4 (⟨#[99, 108, 97, 105, 109, 32]⟩ ++ lineT ((.mk ck cn cnn cks), (.mk bk bn bnn bks)) ++ ⟨#[10]⟩) (by first | (simp only [ByteArray.size_append, bsz, List.size_toArray, lK, lZ]; omega) | omega)) (by first | (simp only [ByteArray.size_append, bsz, List.size_toArray, lK, lZ]; omega) | omega) ?_
  simp +contextual -implicitDefEqProofs only [sub_agf, isAg_ag, List.getD_cons_zero, List.getD_cons_succ, lM, go_sem, ↓reduceIte, Nat.reduceEqDiff, Nat.reduceAdd, Nat.reduceLeDiff, Nat.reduceBEq, Nat.reduceLT]
  have hru3 : ru = 1 ∨ ru = 2 ∨ ru = 3 := by omega
  rw [show claimT s ((.mk ck cn cnn cks), (.mk bk bn bnn bks), ru, (rf : Int), sn, sl) = stepsT (s ++ (⟨#[99, 108, 97, 105, 109, 32]⟩ ++ lineT ((.mk ck cn cnn cks), (.mk bk bn bnn bks)) ++ ⟨#[10]⟩) ++ refT ((.mk ck cn cnn cks), (.mk bk bn bnn bks), ru, (rf : Int), sn, sl)) sl from rfl] at hct
  rcases hru3 with rfl | rfl | rfl
  ·rw [show refT ((.mk ck cn cnn cks), (.mk bk bn bnn bks), 1, (rf : Int), sn, sl) = ⟨#[]⟩ by simp [refT], app_e] at hct
   simp +contextual -implicitDefEqProofs only [Int.reduceBEq, go_sem]
   generalize hQ : (s ++ (⟨#[99, 108, 97, 105, 109, 32]⟩ ++ lineT ((.mk ck cn cnn cks), (.mk bk bn bnn bks)) ++ ⟨#[10]⟩) : ByteArray) = Q at hct ⊢
   have hzQ : Q.size ≤ s.size + 2100 := by
    rw [← hQ]
    simp only [ByteArray.size_append, bsz, List.size_toArray, lK, lZ]
    omega
   clear hQ
   refine vc_onU (α := Nat) [7, 59, 60, 61, 62, 63, 64, 66] (fun j => [(59, .im none (.sc (.int .i64 j)))]) (fun j => [(5, .ar false (some false) 9 [.ag [.sc (.int .i64 ck), .sc (.int .i64 cn), .ls cnn 3 (cks.map eE), .sc (.int .i64 bk), .sc (.int .i64 bn), .ls bnn 3 (bks.map eE), .sc (.int .i64 1), .sc (.int .i64 rf), .ls sn 5 (sl.map eSt)]]), (3, .sb 78 5 (stepsT Q (sl.take j))), (1, .ar false (some false) 3 [.ag [.sc (.int .i64 t), .sc (.int .i64 a), .ls nn 9 (l.map eCl)]])]) (fun j => j ≤ sl.length) (fun j => sl.length - j) 0 (Ent.to [] (by simp only [go_sem]; rfl) rfl (by simp [stepsT_nil]) (by rfl) (by simp only [subEnv, go_sem, ↓reduceIte, Nat.reduceEqDiff, keep, memN] <;> simp)) (Nat.zero_le _) ?_
   intro j hj0
   by_cases hj : j < sl.length
   ·have e2 := at_map (f := eSt) hj
    have hS := hsx _ (List.getElem_mem hj)
    have hst := stepsT_take (s := Q) hj
    have hz2 := stepsT_size hg (s := Q) (l := sl.take j) fun x hx' => hsx x (List.mem_of_mem_take hx')
    have hz3 := stepT_size hg hS
    rw [List.length_take] at hz2
    generalize stepsT Q (sl.take j) = s2 at hst hz2 ⊢
    cases hfl : (eSt sl[j]).flat
    all_goals
     simp +contextual -implicitDefEqProofs only [hj, hfl, e2, eSt_size, encSt.sub, encSt.isAg, D.put, bE, D.size, D.sizeL, isAg_ag, modeOf, noPtrs, lM, go_sem, ↓reduceIte, Nat.reduceEqDiff, Nat.reduceAdd, Nat.reduceLeDiff, Nat.reduceBEq, Nat.reduceBneDiff, Nat.reduceLT, iL, iN]
     refine callQ_self (ds := [eSt sl[j]]) (by rfl) (hc3 ((t : Int), (a : Int)) hg sl[j] hS) ?_
     simp +contextual -implicitDefEqProofs only [eT, go_sem, ↓reduceIte, Nat.reduceEqDiff]
     refine bwr_self (T := 78) (E := 5) (t := stepT sl[j]) [.sc (.string (stepT sl[j]))] (by rfl) (by rfl) (by rfl) (hc4 (stepT sl[j]) (by first | (simp only [ByteArray.size_append, bsz, List.size_toArray, lK, lZ]; omega) | omega)) (by first | (simp only [ByteArray.size_append, bsz, List.size_toArray, lK, lZ]; omega) | omega) ?_
     simp +contextual -implicitDefEqProofs only [go_sem, ↓reduceIte, Nat.reduceEqDiff, Nat.reduceBEq]
     refine ⟨j + 1, by omega, by omega, ?_⟩
     rw [wrap_i64 (by omega) (by omega)]
     exact Ent.to [7] (by simp only [go_sem, ↓reduceIte, Nat.reduceEqDiff, Nat.reduceBEq]; rfl) rfl (by simp [hst]) (by rfl) (by simp only [subEnv, go_sem, ↓reduceIte, Nat.reduceEqDiff] <;> simp)
   ·obtain rfl : j = sl.length := by omega
    simp +contextual -implicitDefEqProofs only [hj, List.take_length, go_sem, ↓reduceIte, Nat.reduceEqDiff, iL]
    refine ⟨i + 1, by omega, by omega, ?_⟩
    rw [wrap_i64 (by omega) (by omega)]
    exact Ent.to [5] (by simp only [go_sem, ↓reduceIte, Nat.reduceEqDiff, Nat.reduceBEq]; rfl) rfl (by simp [hct]) (by rfl) (by simp only [subEnv, go_sem, ↓reduceIte, Nat.reduceEqDiff] <;> simp)
  ·rw [show refT ((.mk ck cn cnn cks), (.mk bk bn bnn bks), 2, (rf : Int), sn, sl) = ⟨#[108, 101, 102, 116, 32]⟩ ++ decB rf ++ ⟨#[10]⟩ by simp [refT]] at hct
   simp +contextual -implicitDefEqProofs only [Int.reduceBEq, bE, go_sem]
   refine callQ_self (ds := [eI (rf : Nat)]) (by rfl) (hc1 rf (by omega)) ?_
   simp +contextual -implicitDefEqProofs only [eT, go_sem, ↓reduceIte, Nat.reduceEqDiff]
   refine ⟨by first | (simp only [List.size_toArray, lK, lZ]; omega) | omega, by first | (simp only [List.size_toArray, lK, lZ]; omega) | omega, ?_⟩
   refine bwr_self (T := 78) (E := 5) (t := ⟨#[108, 101, 102, 116, 32]⟩ ++ decB rf ++ ⟨#[10]⟩) [.sc (.string (⟨#[108, 101, 102, 116, 32]⟩ ++ decB rf ++ ⟨#[10]⟩))] (by rfl) (by rfl) (by rfl) (hc4 (⟨#[108, 101, 102, 116, 32]⟩ ++ decB rf ++ ⟨#[10]⟩) (by first | (simp only [ByteArray.size_append, bsz, List.size_toArray, lK, lZ]; omega) | omega)) (by first | (simp only [ByteArray.size_append, bsz, List.size_toArray, lK, lZ]; omega) | omega) ?_
   simp +contextual -implicitDefEqProofs only [sub_agf, isAg_ag, List.getD_cons_zero, List.getD_cons_succ, lM, go_sem, ↓reduceIte, Nat.reduceEqDiff, Nat.reduceAdd, Nat.reduceLeDiff, Nat.reduceBEq, Nat.reduceLT]
   generalize hQ : (s ++ (⟨#[99, 108, 97, 105, 109, 32]⟩ ++ lineT ((.mk ck cn cnn cks), (.mk bk bn bnn bks)) ++ ⟨#[10]⟩) ++ (⟨#[108, 101, 102, 116, 32]⟩ ++ decB rf ++ ⟨#[10]⟩) : ByteArray) = Q at hct ⊢
   have hzQ : Q.size ≤ s.size + 2100 := by
    rw [← hQ]
    simp only [ByteArray.size_append, bsz, List.size_toArray, lK, lZ]
    omega
   clear hQ
   refine vc_onU (α := Nat) [7, 59, 60, 61, 62, 63, 64, 66] (fun j => [(59, .im none (.sc (.int .i64 j)))]) (fun j => [(5, .ar false (some false) 9 [.ag [.sc (.int .i64 ck), .sc (.int .i64 cn), .ls cnn 3 (cks.map eE), .sc (.int .i64 bk), .sc (.int .i64 bn), .ls bnn 3 (bks.map eE), .sc (.int .i64 2), .sc (.int .i64 rf), .ls sn 5 (sl.map eSt)]]), (3, .sb 78 5 (stepsT Q (sl.take j))), (1, .ar false (some false) 3 [.ag [.sc (.int .i64 t), .sc (.int .i64 a), .ls nn 9 (l.map eCl)]])]) (fun j => j ≤ sl.length) (fun j => sl.length - j) 0 (Ent.to [] (by simp only [go_sem]; rfl) rfl (by simp [stepsT_nil]) (by rfl) (by simp only [subEnv, go_sem, ↓reduceIte, Nat.reduceEqDiff, keep, memN] <;> simp)) (Nat.zero_le _) ?_
   intro j hj0
   by_cases hj : j < sl.length
   ·have e2 := at_map (f := eSt) hj
    have hS := hsx _ (List.getElem_mem hj)
    have hst := stepsT_take (s := Q) hj
    have hz2 := stepsT_size hg (s := Q) (l := sl.take j) fun x hx' => hsx x (List.mem_of_mem_take hx')
    have hz3 := stepT_size hg hS
    rw [List.length_take] at hz2
    generalize stepsT Q (sl.take j) = s2 at hst hz2 ⊢
    cases hfl : (eSt sl[j]).flat
    all_goals
     simp +contextual -implicitDefEqProofs only [hj, hfl, e2, eSt_size, encSt.sub, encSt.isAg, D.put, bE, D.size, D.sizeL, isAg_ag, modeOf, noPtrs, lM, go_sem, ↓reduceIte, Nat.reduceEqDiff, Nat.reduceAdd, Nat.reduceLeDiff, Nat.reduceBEq, Nat.reduceBneDiff, Nat.reduceLT, iL, iN]
     refine callQ_self (ds := [eSt sl[j]]) (by rfl) (hc3 ((t : Int), (a : Int)) hg sl[j] hS) ?_
     simp +contextual -implicitDefEqProofs only [eT, go_sem, ↓reduceIte, Nat.reduceEqDiff]
     refine bwr_self (T := 78) (E := 5) (t := stepT sl[j]) [.sc (.string (stepT sl[j]))] (by rfl) (by rfl) (by rfl) (hc4 (stepT sl[j]) (by first | (simp only [ByteArray.size_append, bsz, List.size_toArray, lK, lZ]; omega) | omega)) (by first | (simp only [ByteArray.size_append, bsz, List.size_toArray, lK, lZ]; omega) | omega) ?_
     simp +contextual -implicitDefEqProofs only [go_sem, ↓reduceIte, Nat.reduceEqDiff, Nat.reduceBEq]
     refine ⟨j + 1, by omega, by omega, ?_⟩
     rw [wrap_i64 (by omega) (by omega)]
     exact Ent.to [7] (by simp only [go_sem, ↓reduceIte, Nat.reduceEqDiff, Nat.reduceBEq]; rfl) rfl (by simp [hst]) (by rfl) (by simp only [subEnv, go_sem, ↓reduceIte, Nat.reduceEqDiff] <;> simp)
   ·obtain rfl : j = sl.length := by omega
    simp +contextual -implicitDefEqProofs only [hj, List.take_length, go_sem, ↓reduceIte, Nat.reduceEqDiff, iL]
    refine ⟨i + 1, by omega, by omega, ?_⟩
    rw [wrap_i64 (by omega) (by omega)]
    exact Ent.to [5] (by simp only [go_sem, ↓reduceIte, Nat.reduceEqDiff, Nat.reduceBEq]; rfl) rfl (by simp [hct]) (by rfl) (by simp only [subEnv, go_sem, ↓reduceIte, Nat.reduceEqDiff] <;> simp)
  ·rw [show refT ((.mk ck cn cnn cks), (.mk bk bn bnn bks), 3, (rf : Int), sn, sl) = ⟨#[114, 105, 103, 104, 116, 32]⟩ ++ decB rf ++ ⟨#[10]⟩ by simp [refT]] at hct
   simp +contextual -implicitDefEqProofs only [Int.reduceBEq, bE, go_sem]
   refine callQ_self (ds := [eI (rf : Nat)]) (by rfl) (hc1 rf (by omega)) ?_
   simp +contextual -implicitDefEqProofs only [eT, go_sem, ↓reduceIte, Nat.reduceEqDiff]
   refine ⟨by first | (simp only [List.size_toArray, lK, lZ]; omega) | omega, by first | (simp only [List.size_toArray, lK, lZ]; omega) | omega, ?_⟩
   refine bwr_self (T := 78) (E := 5) (t := ⟨#[114, 105, 103, 104, 116, 32]⟩ ++ decB rf ++ ⟨#[10]⟩) [.sc (.string (⟨#[114, 105, 103, 104, 116, 32]⟩ ++ decB rf ++ ⟨#[10]⟩))] (by rfl) (by rfl) (by rfl) (hc4 (⟨#[114, 105, 103, 104, 116, 32]⟩ ++ decB rf ++ ⟨#[10]⟩) (by first | (simp only [ByteArray.size_append, bsz, List.size_toArray, lK, lZ]; omega) | omega)) (by first | (simp only [ByteArray.size_append, bsz, List.size_toArray, lK, lZ]; omega) | omega) ?_
   simp +contextual -implicitDefEqProofs only [sub_agf, isAg_ag, List.getD_cons_zero, List.getD_cons_succ, lM, go_sem, ↓reduceIte, Nat.reduceEqDiff, Nat.reduceAdd, Nat.reduceLeDiff, Nat.reduceBEq, Nat.reduceLT]
   generalize hQ : (s ++ (⟨#[99, 108, 97, 105, 109, 32]⟩ ++ lineT ((.mk ck cn cnn cks), (.mk bk bn bnn bks)) ++ ⟨#[10]⟩) ++ (⟨#[114, 105, 103, 104, 116, 32]⟩ ++ decB rf ++ ⟨#[10]⟩) : ByteArray) = Q at hct ⊢
   have hzQ : Q.size ≤ s.size + 2100 := by
    rw [← hQ]
    simp only [ByteArray.size_append, bsz, List.size_toArray, lK, lZ]
    omega
   clear hQ
   refine vc_onU (α := Nat) [7, 59, 60, 61, 62, 63, 64, 66] (fun j => [(59, .im none (.sc (.int .i64 j)))]) (fun j => [(5, .ar false (some false) 9 [.ag [.sc (.int .i64 ck), .sc (.int .i64 cn), .ls cnn 3 (cks.map eE), .sc (.int .i64 bk), .sc (.int .i64 bn), .ls bnn 3 (bks.map eE), .sc (.int .i64 3), .sc (.int .i64 rf), .ls sn 5 (sl.map eSt)]]), (3, .sb 78 5 (stepsT Q (sl.take j))), (1, .ar false (some false) 3 [.ag [.sc (.int .i64 t), .sc (.int .i64 a), .ls nn 9 (l.map eCl)]])]) (fun j => j ≤ sl.length) (fun j => sl.length - j) 0 (Ent.to [] (by simp only [go_sem]; rfl) rfl (by simp [stepsT_nil]) (by rfl) (by simp only [subEnv, go_sem, ↓reduceIte, Nat.reduceEqDiff, keep, memN] <;> simp)) (Nat.zero_le _) ?_
   intro j hj0
   by_cases hj : j < sl.length
   ·have e2 := at_map (f := eSt) hj
    have hS := hsx _ (List.getElem_mem hj)
    have hst := stepsT_take (s := Q) hj
    have hz2 := stepsT_size hg (s := Q) (l := sl.take j) fun x hx' => hsx x (List.mem_of_mem_take hx')
    have hz3 := stepT_size hg hS
    rw [List.length_take] at hz2
    generalize stepsT Q (sl.take j) = s2 at hst hz2 ⊢
    cases hfl : (eSt sl[j]).flat
    all_goals
     simp +contextual -implicitDefEqProofs only [hj, hfl, e2, eSt_size, encSt.sub, encSt.isAg, D.put, bE, D.size, D.sizeL, isAg_ag, modeOf, noPtrs, lM, go_sem, ↓reduceIte, Nat.reduceEqDiff, Nat.reduceAdd, Nat.reduceLeDiff, Nat.reduceBEq, Nat.reduceBneDiff, Nat.reduceLT, iL, iN]
     refine callQ_self (ds := [eSt sl[j]]) (by rfl) (hc3 ((t : Int), (a : Int)) hg sl[j] hS) ?_
     simp +contextual -implicitDefEqProofs only [eT, go_sem, ↓reduceIte, Nat.reduceEqDiff]
     refine bwr_self (T := 78) (E := 5) (t := stepT sl[j]) [.sc (.string (stepT sl[j]))] (by rfl) (by rfl) (by rfl) (hc4 (stepT sl[j]) (by first | (simp only [ByteArray.size_append, bsz, List.size_toArray, lK, lZ]; omega) | omega)) (by first | (simp only [ByteArray.size_append, bsz, List.size_toArray, lK, lZ]; omega) | omega) ?_
     simp +contextual -implicitDefEqProofs only [go_sem, ↓reduceIte, Nat.reduceEqDiff, Nat.reduceBEq]
     refine ⟨j + 1, by omega, by omega, ?_⟩
     rw [wrap_i64 (by omega) (by omega)]
     exact Ent.to [7] (by simp only [go_sem, ↓reduceIte, Nat.reduceEqDiff, Nat.reduceBEq]; rfl) rfl (by simp [hst]) (by rfl) (by simp only [subEnv, go_sem, ↓reduceIte, Nat.reduceEqDiff] <;> simp)
   ·obtain rfl : j = sl.length := by omega
    simp +contextual -implicitDefEqProofs only [hj, List.take_length, go_sem, ↓reduceIte, Nat.reduceEqDiff, iL]
    refine ⟨i + 1, by omega, by omega, ?_⟩
    rw [wrap_i64 (by omega) (by omega)]
    exact Ent.to [5] (by simp only [go_sem, ↓reduceIte, Nat.reduceEqDiff, Nat.reduceBEq]; rfl) rfl (by simp [hct]) (by rfl) (by simp only [subEnv, go_sem, ↓reduceIte, Nat.reduceEqDiff] <;> simp)
 ·obtain rfl : i = l.length := by omega
  simp +contextual -implicitDefEqProofs only [hi, List.take_length, go_sem, ↓reduceIte, Nat.reduceEqDiff, iL]
  refine bst_self (T := 78) (E := 5) (by rfl) hc5 ?_
  simp +contextual -implicitDefEqProofs only [bE, go_sem, ↓reduceIte, Nat.reduceEqDiff, Nat.reduceBEq]

def k_imProofTextF (f1 f2 : Nat) : RC := (.seq (.r [.b 1 3 0, ⟨none, .mv 2 (.c (.sc (.string ⟨#[]⟩)))⟩]) (.seq (.seq (.r [.L 3 3 1, .c 4 f1 [.t 3], .o (.un 5 .not (.t 4))]) (.cond (.t 5) (.seq (.r [⟨none, .mv 2 (.c (.sc (.string ⟨#[]⟩)))⟩]) .ret) .skip)) (.seq (.r [.L 6 3 1, .c 7 f2 [.t 6], .m 2 7]) .ret)))
def K_imProofTextF (P : Program) (fno : Nat) : Prop := ∀ (p : Pf), AF P fno [ePf p] (.own (eT (txtPf p)))
theorem a_imProofTextF {P : Program} (hm : P.follows .mixedOrders = true) {g f1 f2 : Nat} (hr : resF P g = some (8, k_imProofTextF f1 f2, [.t 2])) (hc1 : K_imValidProof P f1) (hc2 : K_imProofText P f2) : K_imProofTextF P g := by
 intro p
 refine af_of_res hr hm rfl fun hb => ?_
 cases ho : okPf p
 ·have et : txtPf p = ⟨#[]⟩ := by simp only [txtPf, ho]; rfl
  rw [et]
  obtain ⟨⟨t, a⟩, nn, l⟩ := p
  simp +contextual -implicitDefEqProofs only [k_imProofTextF, ePf, eI, eT, D.size, D.sizeL, sub_agt, isAg_ag, D.at, List.getD_cons_zero, List.drop_zero, List.take_succ_cons, List.take_zero, go_sem, ↓reduceIte, Nat.reduceEqDiff, Nat.reduceAdd, Nat.reduceLeDiff, Nat.reduceLT]
  refine callQ_self (ds := [ePf ((t, a), nn, l)]) (by rfl) (hc1 _) ?_
  rw [ho]
  simp +contextual -implicitDefEqProofs only [eB, bN, go_sem, ↓reduceIte]
 ·obtain ⟨t, a, nn, l, rfl, hg, ht, ha, hl, hx⟩ := okPf_split ho
  have et : txtPf (((t : Int), (a : Int)), nn, l) = proofT (((t : Int), (a : Int)), nn, l) := by simp only [txtPf, ho, if_true]
  rw [et]
  simp +contextual -implicitDefEqProofs only [k_imProofTextF, ePf, eI, eT, D.size, D.sizeL, sub_agt, isAg_ag, D.at, List.getD_cons_zero, List.drop_zero, List.take_succ_cons, List.take_zero, go_sem, ↓reduceIte, Nat.reduceEqDiff, Nat.reduceAdd, Nat.reduceLeDiff, Nat.reduceLT]
  refine callQ_self (ds := [ePf (((t : Int), (a : Int)), nn, l)]) (by rfl) (hc1 _) ?_
  rw [ho]
  simp +contextual -implicitDefEqProofs only [eB, bT, sub_agt, isAg_ag, D.at, List.getD_cons_zero, List.drop_zero, List.take_succ_cons, List.take_zero, go_sem, ↓reduceIte, Nat.reduceEqDiff, Nat.reduceLeDiff]
  refine callQ_self (ds := [ePf (((t : Int), (a : Int)), nn, l)]) (by rfl) (hc2 t a nn l hg ht ha hl hx) ?_
  simp +contextual -implicitDefEqProofs only [eT, go_sem, ↓reduceIte]
open Go.Proofs Go.Shelf Go.RowKit
variable {P : Program} {ρ : Ren}
theorem repL_eT {h : Heap} : ∀ {ts : List ByteArray} {F : List Nat} {cs : List Value}, RepL h (ts.map eT) F cs → F = [] ∧ cs = ts.map Value.string
 | [], F, cs, hr => by simpa [RepL] using hr
 | t :: ts, F, cs, hr => by
  rw [List.map_cons, RepL_cons] at hr
  obtain ⟨F1, F2, c1, c2, rfl, rfl, h1, h2⟩ := hr
  obtain ⟨rfl, rfl⟩ := repL_eT h2
  simp only [eT, Rep] at h1
  obtain ⟨rfl, rfl, _⟩ := h1
  exact ⟨rfl, rfl⟩
theorem joinTl {sep : ByteArray} : ∀ (r : List ByteArray) (a : ByteArray), (r.foldl (fun a x => a ++ sep ++ x) a).data.toList = a.data.toList ++ Lib.joinTail sep.data.toList (r.map (·.data.toList))
 | [], a => by simp [Lib.joinTail]
 | x :: r, a => by
  rw [List.foldl_cons, joinTl r]
  simp [Lib.joinTail, ByteArray.data_append, List.append_assoc]
theorem joinD {sep : ByteArray} {ts : List ByteArray} : Lib.join (ts.map (·.data.toList)) sep.data.toList = (joinP ⟨#[]⟩ sep ts).data.toList := by
 cases ts with
 | nil => rfl
 | cons t r =>
  rw [List.map_cons, Lib.join_cons]
  show _ = (r.foldl (fun a x => a ++ sep ++ x) (⟨#[]⟩ ++ t)).data.toList
  rw [joinTl, e_app]
theorem joinL {sep : ByteArray} {ts : List ByteArray} : (⟨(Lib.join (ts.map (·.data.toList)) sep.data.toList).toArray⟩ : ByteArray) = joinP ⟨#[]⟩ sep ts := by
 rw [joinD, Array.toArray_toList]
theorem sc_of {h : Heap} {x v : Value} {F : List Nat} (h1 : Rep h (.sc x) F v.cells.toList) (h2 : D.fits (.sc x) v) (hx : x.oneCell' = true) : v = x ∧ F = [] := by
 simp only [Rep] at h1
 obtain ⟨hF, hc, _⟩ := h1
 have h2' : v.oneCell' = true := h2
 refine ⟨?_, hF⟩
 cases v <;> simp_all [Value.cells, Value.oneCell']
theorem retT {w : World} {s : ByteArray} : RetRep w.heap (.own (eT s)) [] [] (.string s) := ⟨rfl, ⟨rfl, rfl, rfl⟩, rfl⟩
theorem join_ok (L : Lays.n156 P ρ) (X : Builder.Extra P ρ) (c : Callable P (ρ.f 156)) : K_join P (ρ.f 156) := by
 intro nn ts sep ht hs hl
 refine ⟨c, fun w vs old _ ha => ?_⟩
 simp only [ArgsRep] at ha
 obtain ⟨v, r, F0, rfl, h1, h2, _, v2, r2, F2, rfl, g1, g2, _, rfl⟩ := ha
 obtain ⟨rfl, rfl⟩ := sc_of g1 g2 rfl
 have hz := joinP_size (s := ⟨#[]⟩) (sep := sep) (c := 10000) ht
 have hlen : (Lib.join (ts.map (·.data.toList)) sep.data.toList).length ≤ 140737488355328 := by
  rw [joinD]
  show (joinP ⟨#[]⟩ sep ts).data.toList.length ≤ _
  rw [Array.length_toList]
  have e0 : (⟨#[]⟩ : ByteArray).size = 0 := rfl
  have hm : (10000 + sep.size) * ts.length ≤ 10100 * 1000 := Nat.mul_le_mul (by omega) hl
  have : (joinP ⟨#[]⟩ sep ts).data.size = (joinP ⟨#[]⟩ sep ts).size := rfl
  omega
 have h2' : v.oneCell' = true := h2
 simp only [Rep] at h1
 rcases h1 with ⟨p, hp, hd, rfl, _, _⟩ | ⟨b, off, cap, cc, e, fr, F', hp, rfl, hnn, hcap, hmax, hb, hoff, hsz, hrl⟩
 ·obtain rfl : ts = [] := by simpa using hd
  have hv : v = .slice p 0 0 := by cases v <;> simp_all [Value.cells, Value.oneCell']
  subst hv
  refine (Any.strings_Join_none L X p 0 sep w).mono ?_
  rintro e w' ⟨rfl, rfl⟩
  exact ⟨_, [], [], rfl, Below.refl _ _, retT, List.nodup_nil, by simp, by simp⟩
 ·have hv : v = .slice (some ⟨b, off, none⟩) (ts.map eT).length cap := by cases v <;> simp_all [Value.cells, Value.oneCell']
  subst hv
  rw [List.length_map] at hcap hrl
  obtain ⟨_, hcs⟩ := repL_eT hrl
  rw [List.length_map]
  refine (Any.strings_Join L X b off cap ts sep w ?_ ?_ ?_ hcap hlen).mono ?_
  ·intro j x hx
   have hj : j < ts.length := by
    rcases Nat.lt_or_ge j ts.length with h | h
    ·exact h
    ·rw [List.getElem?_eq_none h] at hx; cases hx
   have hq : ((cc.toList.drop off).take (ts.length * 1))[j]? = some (.string x) := by rw [hcs]; simp [hx]
   rw [Lib.cell_of_heap hb]
   rw [List.getElem?_take, if_pos (by omega), List.getElem?_drop] at hq
   simpa using hq
  ·exact (Array.getElem?_eq_some_iff.1 hb).1
  ·omega
  ·rintro e w' ⟨rfl, hB⟩
   rw [joinL]
   exact ⟨_, [], [], rfl, hB, retT, List.nodup_nil, by simp, by simp⟩
theorem fmtN_ok (L : LaysM.n173 P ρ) (c : Callable P (ρ.f 173)) : K_fmtN P (ρ.f 173) := by
 intro n h0 h1
 refine ⟨⟨(Lib.itoa n).toArray⟩, ?_, c, fun w vs old hw ha => ?_⟩
 ·have := Lib.itoa_length_le n h0 h1
  show (Lib.itoa n).toArray.size ≤ 25
  rw [List.size_toArray]
  omega
 simp only [ArgsRep] at ha
 obtain ⟨v, r, F0, rfl, k1, k2, _, v2, r2, F2, rfl, g1, g2, _, rfl⟩ := ha
 obtain ⟨rfl, rfl⟩ := sc_of k1 k2 rfl
 obtain ⟨rfl, rfl⟩ := sc_of g1 g2 rfl
 refine (Any.strconv_FormatInt_10 L n h0 h1 w hw).mono ?_
 rintro e w' ⟨rfl, k, os, rfl⟩
 exact ⟨_, [], [], rfl, Lib.below_grow _ _ (Nat.le_refl _) _ _, retT, List.nodup_nil, by simp, by simp⟩
end Go.Ax
namespace Go.Ax
open Go.Proofs Go.Shelf Go.RowKit
variable {P : Program} {ρ : Ren}

theorem appendSb {w : World} (t u ty e : TypeId) (i : TypeInfo) (ht : P.underlying t = some (.slice e)) (hu : P.underlying u = some .string) (hi : P.info? e = some i) (hz : i.zero = some (.int .u8 0))
  (hsize : i.size = 1) (hby : i.bytes = 1) (v : Value) (n : Nat) (xs : List Value) (hown : w.ownsRow 0 e 1 v n xs) (s : ByteArray) (h63 : n + s.size ≤ maxLen) (hbytes : n + s.size ≤ 140737488355328) :
  ∃ v' w', (Builtin.append_ #[t, u] ty #[v, .string s]).run P w = .ok v' w' ∧ w'.ownsRow 0 e 1 v' (n + s.size) (xs ++ Lib.strCells s) ∧ w.grownBy w' v.ownBlock ∧ ∀ k, v'.ownBlock = some k → v.ownBlock = some k ∨ w.heap.size ≤ k := by
 obtain ⟨v', w', hr, h2, h3, _⟩ := Lib.run_append_own_string (P := P) w 0 t u ty e i ht hu hi hz hsize hby v n xs hown s h63 hbytes (Nat.zero_le _)
 refine ⟨v', w', hr, h2, h3, fun k hk => ?_⟩
 rcases hown.2 with ⟨rfl, rfl⟩ | ⟨g, cap, cur, rfl, hbg, hg, hnc, hcm, hcs, htake⟩
 ·have hown2 : w.ownsRow w.heap.size e 1 (.slice none 0 0) 0 xs := ⟨hown.1, .inl ⟨rfl, rfl⟩⟩
  obtain ⟨v2, w2, hr2, h22, _, _⟩ := Lib.run_append_own_string (P := P) w w.heap.size t u ty e i ht hu hi hz hsize hby _ 0 xs hown2 s h63 hbytes (Nat.le_refl _)
  rw [hr] at hr2
  injection hr2 with e1 e2
  subst e1
  rcases h22.2 with ⟨rfl, _⟩ | ⟨g', cap', cur', rfl, hb', _⟩
  ·cases hk
  ·injection hk with hk
   subst hk
   exact .inr hb'
 ·by_cases hroom : n + s.size ≤ cap
  ·have hr2 := Lib.run_append_room_string (P := P) w t u ty e i ht hu hi hsize g n cap cur hg s hroom (by omega)
   rw [hr] at hr2
   injection hr2 with e1 e2
   subst e1
   exact .inl hk
  ·have holds : ∀ j u, xs[j]? = some u → w.cell? ((⟨g, 0, none⟩ : Addr).add j) = some u := hown.cells (g := g) rfl
   have hxl : xs.length = n := by simpa using hown.1
   have hr2 := Lib.run_append_grow_string (P := P) w t u ty e i (.int .u8 0) ht hu hi hz ⟨g, 0, none⟩ n cap xs (by rw [hsize]; simpa using hxl) holds s (by omega) (by simp only [maxLen] at h63; omega) (by rw [hby]; exact growslice_fits (by omega) (by omega))
   rw [hr] at hr2
   injection hr2 with e1 e2
   subst e1
   injection hk with hk
   subst hk
   exact .inr (Nat.le_refl _)

theorem wpAppendSb {ops : Array Oper} {rest : List Oper} {o : Oper} {a : Act} {w : World} {Q : Exit → Act → World → Prop} (hgd : o.guard = none) (sl x : Operand) (t u : TypeId)
  (ho : o.op = .call { callee := .builtin .append, args := #[sl, x], argTypes := #[t, u] })
  (e : TypeId) (i : TypeInfo) (ht : P.underlying t = some (.slice e)) (hu : P.underlying u = some .string) (hi : P.info? e = some i) (hz : i.zero = some (.int .u8 0))
  (hsize : i.size = 1) (hby : i.bytes = 1)
  (v : Value) (n : Nat) (xs : List Value) (hs : a.eval sl = v) (hown : w.ownsRow 0 e 1 v n xs) (s : ByteArray) (hx : a.eval x = .string s)
  (h63 : n + s.size ≤ maxLen) (hbytes : n + s.size ≤ 140737488355328)
  (h : ∀ v' w', w'.ownsRow 0 e 1 v' (n + s.size) (xs ++ Lib.strCells s) → w.grownBy w' v.ownBlock → (∀ k, v'.ownBlock = some k → v.ownBlock = some k ∨ w.heap.size ≤ k) → wpList P ops Q rest (a.put o.dst v') w') : wpList P ops Q (o :: rest) a w := by
 refine wpList_plain hgd fun K hK => ?_
 obtain ⟨v', w', hr, h2, h3, h4⟩ := appendSb (P := P) (w := w) t u o.type e i ht hu hi hz hsize hby v n xs hown s h63 hbytes
 unfold Oper.wp execOp
 simp only [ho, resolve, invoke, builtin, Sem.run_bind, Sem.run_pure, Result.andThen_ok, List.map_toArray, List.map_cons, List.map_nil, hs, hx, hr]
 exact hK _ _ (h v' w' h2 h3 h4)

theorem sb_own {w : World} {E : Nat} {s : ByteArray} {F : List Nat} {bv : Value} (h : SbBuf w.heap E s F bv) : w.ownsRow 0 E 1 bv s.size (sbCells s) ∧ ∀ k, bv.ownBlock = some k ↔ k ∈ F := by
 have hl : (sbCells s).length = s.size := by
  show (s.data.toList.map _).length = s.data.size
  rw [List.length_map, Array.length_toList]
 rcases h with ⟨rfl, h0, rfl⟩ | ⟨g, cap, cur, rfl, rfl, hg, h1, h2, h3, h4⟩
 ·exact ⟨⟨by simpa using hl, .inl ⟨rfl, h0⟩⟩, fun k => by simp [Value.ownBlock]⟩
 ·exact ⟨⟨by simpa using hl, .inr ⟨g, cap, cur, rfl, Nat.zero_le _, hg, h1, h2, by simpa using h3, by simpa using h4⟩⟩, fun k => by simp [Value.ownBlock, eq_comm]⟩

theorem own_sb {w : World} {E : Nat} {s : ByteArray} {bv : Value} {xs : List Value} (h : w.ownsRow 0 E 1 bv s.size xs) (hx : xs = sbCells s) : ∃ F, SbBuf w.heap E s F bv ∧ ∀ k, bv.ownBlock = some k ↔ k ∈ F := by
 subst hx
 rcases h.2 with ⟨rfl, h0⟩ | ⟨g, cap, cur, rfl, _, hg, h1, h2, h3, h4⟩
 ·exact ⟨[], .inl ⟨rfl, h0, rfl⟩, fun k => by simp [Value.ownBlock]⟩
 ·exact ⟨[g], .inr ⟨g, cap, cur, rfl, rfl, hg, h1, h2, by simpa using h3, by simpa using h4⟩, fun k => by simp [Value.ownBlock, eq_comm]⟩

theorem ccB (L : Lays.n240 P ρ) (X : Builder.X72 P ρ) (b : Nat) (ad bv : Value) (w : World) (h1 : w.heap[b]? = some (.cells #[ad, bv] (ρ.t 72) (0, 0))) (h2 : ad = .pointer none ∨ ad = .pointer (some ⟨b, 0, none⟩)) :
  Calls P (ρ.f 240) #[.pointer (some ⟨b, 0, none⟩)] w fun e w' => e = .returned (.tuple #[]) ∧ w'.heap[b]? = some (.cells #[.pointer (some ⟨b, 0, none⟩), bv] (ρ.t 72) (0, 0)) ∧
   w'.os = w.os ∧ w'.tape = w.tape ∧ w'.output = w.output ∧ w'.heap.size = w.heap.size ∧ ∀ x, x ≠ b → w'.heap[x]? = w.heap[x]? := by
 rcases h2 with rfl | rfl
 ·refine (Any.Builder_copyCheck_fresh L X b w (by simp [World.cell?, h1]) (by simp [World.shape?, h1]) (by simp [World.frozen?, h1])).mono ?_
  rintro e w' ⟨rfl, rfl⟩
  exact ⟨rfl, by simp [World.setCell, Array.getElem?_modify, h1], rfl, rfl, rfl, by simp [World.setCell], fun x hx => Below.heap_setCell _ _ _ _ hx⟩
 ·refine (Any.Builder_copyCheck_used L X b w (by simp [World.cell?, h1])).mono ?_
  rintro e w' ⟨rfl, rfl⟩
  exact ⟨rfl, h1, rfl, rfl, rfl, rfl, fun _ _ => rfl⟩

theorem sbCells_app {s t : ByteArray} : sbCells (s ++ t) = sbCells s ++ Lib.strCells t := by
 simp [sbCells, Lib.strCells]

set_option maxHeartbeats 2000000 in
set_option maxRecDepth 100000 in
theorem wrS_run (L : Lays.n166 P ρ) (X : Builder.Extra P ρ) (b : Nat) (s t : ByteArray) (F : List Nat) (w : World) (hz : s.size + t.size ≤ 140737488355328) (h : SbAt w.heap (ρ.t 72) (ρ.t 5) s b F) (hnb : b ∉ F) :
  Calls P (ρ.f 166) #[.pointer (some ⟨b, 0, none⟩), .string t] w fun e w' => e = .returned (.tuple #[.int .i64 t.size, .nilIface]) ∧ w'.os = w.os ∧ w'.tape = w.tape ∧ w'.output = w.output ∧ w.heap.size ≤ w'.heap.size ∧
   (∀ x, x < w.heap.size → x ∉ b :: F → w'.heap[x]? = w.heap[x]?) ∧ ∃ F', SbAt w'.heap (ρ.t 72) (ρ.t 5) (s ++ t) b F' ∧ b ∉ F' ∧ ∀ x ∈ F', x ∈ F ∨ w.heap.size ≤ x := by
 obtain ⟨ad, bv, h1, h2, h3⟩ := h
 obtain ⟨i0, hi, hz0, hz1, hz2⟩ := info_parts X.infoByte
 have mixed := L.mixed
 have t72 := L.t72; have a72 := L.a72; have z72 := L.z72; have v72 := L.v72; have u72 := run_underlying L.t72
 have t70 := L.t70; have a70 := L.a70; have z70 := L.z70; have v70 := L.v70; have u70 := run_underlying L.t70
 have t37 := L.t37; have a37 := L.a37; have z37 := L.z37; have v37 := L.v37; have u37 := run_underlying L.t37
 have t3 := L.t3; have a3 := L.a3; have z3 := L.z3; have v3 := L.v3; have u3 := run_underlying L.t3
 have t9 := L.t9; have a9 := L.a9; have z9 := L.z9; have v9 := L.v9; have u9 := run_underlying L.t9
 have t4 := L.t4; have a4 := L.a4; have z4 := L.z4; have v4 := L.v4; have u4 := run_underlying L.t4
 have t164 := L.t164; have a164 := L.a164; have z164 := L.z164; have v164 := L.v164; have u164 := run_underlying L.t164
 have t5 := X.t5; have a5 := X.a5; have z5 := X.z5; have v5 := X.v5; have u5 := run_underlying X.t5
 have e240 : ∀ args w, (callFunc (ρ.f 240) args).run P w = .ok (.enter (ρ.f 240) args) w := enters_of L.f240 (by kernel_rfl) rfl
 have hlt : b < w.heap.size := (Array.getElem?_eq_some_iff.1 h1).1
 go_enter L.f166, Body.n166_ntmps ρ
 go_wp2_with (go_at_fn (ρ.f 240); refine (ccB { L with } X.toX72 b ad bv _ h1 h2).mono ?_)
 rintro e w1 ⟨rfl, hb1, k1, k2, k3, k4, k5⟩
 have h3' : SbBuf w1.heap (ρ.t 5) s F bv := h3.frame fun x hx => k5 x (fun e => hnb (e ▸ hx))
 obtain ⟨hown, hblk⟩ := sb_own h3'
 have c0 : w1.cell? ⟨b, 0, none⟩ = some (.pointer (some ⟨b, 0, none⟩)) := by rw [Lib.cell_of_heap hb1]; rfl
 have c1 : w1.cell? ⟨b, 1, none⟩ = some bv := by rw [Lib.cell_of_heap hb1]; rfl
 go_wp2_with (at_builtin; refine wpAppendSb rfl _ _ (ρ.t 37) (ρ.t 9) rfl (ρ.t 5) i0 L.t37 L.t9 hi hz0 hz1 hz2 _ _ _ rfl hown t rfl ?c3 ?c4 ?_)
 case c3 => unfold maxLen; omega
 case c4 => omega
 intro v' w2 hown' hgrow hwhere
 have hb2 : w2.heap[b]? = some (.cells #[.pointer (some ⟨b, 0, none⟩), bv] (ρ.t 72) (0, 0)) := by
  rw [hgrow.block b (by omega) (fun e => hnb ((hblk b).1 e.symm))]
  exact hb1
 have d0 : w2.cell? ⟨b, 0, none⟩ = some (.pointer (some ⟨b, 0, none⟩)) := by rw [Lib.cell_of_heap hb2]; rfl
 have d1 : w2.cell? ⟨b, 1, none⟩ = some bv := by rw [Lib.cell_of_heap hb2]; rfl
 have f1 : w2.frozen? ⟨b, 1, none⟩ = false := Lib.frozen_of_heap hb2 1
 obtain ⟨ao, n', cap, rfl⟩ : ∃ ao n' cap, v' = .slice ao n' cap := by
  rcases hown'.2 with ⟨hv, _⟩ | ⟨g, cap, cur, hv, _⟩
  ·exact ⟨_, _, _, hv⟩
  ·exact ⟨_, _, _, hv⟩
 go_wp2
 go_ret2
 rw [← ByteArray.size_append] at hown'
 obtain ⟨F', q1, q2⟩ := own_sb hown' sbCells_app.symm
 have hbF : b ∉ F' := by
  intro hx
  rcases hwhere b ((q2 b).2 hx) with hx | hx
  ·exact hnb hx
  ·omega
 refine ⟨rfl, ?_, ?_, ?_, ?_, ?_, F', ⟨.pointer (some ⟨b, 0, none⟩), .slice ao n' cap, ?_, .inr rfl, ?_⟩, hbF, ?_⟩
 ·exact hgrow.os.trans k1
 ·exact hgrow.tape.trans k2
 ·exact hgrow.output.trans k3
 ·have := hgrow.size
  simp [World.setCell]
  omega
 ·intro x hx hn
  have hn2 : x ≠ b ∧ x ∉ F := by simpa using hn
  rw [show (w2.setCell ⟨b, 1, none⟩ (.slice ao n' cap)).heap[x]? = w2.heap[x]? from Below.heap_setCell _ _ _ _ hn2.1, hgrow.block x (by omega) (fun e => hn2.2 ((hblk x).1 e.symm)), k5 x hn2.1]
 ·simp [World.setCell, Array.getElem?_modify, hb2]
 ·exact q1.frame fun x hx => Below.heap_setCell _ _ _ _ (fun e => hbF (by have e' : x = b := e; subst e'; exact hx))
 ·intro x hx
  rcases hwhere x ((q2 x).2 hx) with hx | hx
  ·exact .inl hx
  ·exact .inr (by omega)

theorem freeze_out (w : World) (g n : Nat) : (w.freeze ⟨g, 0, none⟩ n).os = w.os ∧ (w.freeze ⟨g, 0, none⟩ n).tape = w.tape ∧ (w.freeze ⟨g, 0, none⟩ n).output = w.output ∧ (w.freeze ⟨g, 0, none⟩ n).heap.size = w.heap.size ∧ ∀ x, x ≠ g → (w.freeze ⟨g, 0, none⟩ n).heap[x]? = w.heap[x]? := by
 unfold World.freeze
 split
 ·exact ⟨rfl, rfl, rfl, rfl, fun _ _ => rfl⟩
 ·exact ⟨rfl, rfl, rfl, by simp, fun x hx => by simp only [Array.getElem?_modify]; rw [if_neg (fun e => hx e.symm)]⟩
set_option maxHeartbeats 2000000 in
set_option maxRecDepth 100000 in
theorem bdS_run (L : Lays.n169 P ρ) (X : Builder.Extra P ρ) (b : Nat) (s : ByteArray) (F : List Nat) (w : World) (h : SbAt w.heap (ρ.t 72) (ρ.t 5) s b F) (hnb : b ∉ F) :
  Calls P (ρ.f 169) #[.pointer (some ⟨b, 0, none⟩)] w fun e w' => e = .returned (.string s) ∧ w'.os = w.os ∧ w'.tape = w.tape ∧ w'.output = w.output ∧ w.heap.size ≤ w'.heap.size ∧
   ∀ x, x < w.heap.size → x ∉ b :: F → w'.heap[x]? = w.heap[x]? := by
 obtain ⟨ad, bv, h1, h2, h3⟩ := h
 have hlt : b < w.heap.size := (Array.getElem?_eq_some_iff.1 h1).1
 have hl : s.data.toList.length = s.size := by rw [Array.length_toList]; rfl
 have hUS0 := Any.unsafeString_none L X
 have mixed := L.mixed
 have t72 := L.t72; have a72 := L.a72; have z72 := L.z72; have v72 := L.v72; have u72 := run_underlying L.t72
 have t70 := L.t70; have a70 := L.a70; have z70 := L.z70; have v70 := L.v70; have u70 := run_underlying L.t70
 have t37 := L.t37; have a37 := L.a37; have z37 := L.z37; have v37 := L.v37; have u37 := run_underlying L.t37
 have t127 := L.t127; have a127 := L.a127; have z127 := L.z127; have v127 := L.v127; have u127 := run_underlying L.t127
 have t3 := L.t3; have a3 := L.a3; have z3 := L.z3; have v3 := L.v3; have u3 := run_underlying L.t3
 have t9 := L.t9; have a9 := L.a9; have z9 := L.z9; have v9 := L.v9; have u9 := run_underlying L.t9
 have t5 := X.t5; have a5 := X.a5; have z5 := X.z5; have v5 := X.v5; have u5 := run_underlying X.t5
 by_cases h0 : s.size = 0
 ·have hs : s = ⟨#[]⟩ := by
   cases s with
   | mk a =>
    have : a.size = 0 := h0
    rw [Array.eq_empty_of_size_eq_zero this]
  subst hs
  rcases h3 with ⟨rfl, _, rfl⟩ | ⟨g, cap, cur, rfl, rfl, hg, q1, q2, q3, q4⟩
  ·have c1 : w.drew.cell? ⟨b, 1, none⟩ = some (.slice none 0 0) := by
    have : w.drew.heap[b]? = some (.cells #[ad, .slice none 0 0] (ρ.t 72) (0, 0)) := h1
    rw [Lib.cell_of_heap this]; rfl
   have hSD : (Builtin.unsafeSliceData_ #[(ρ.t 37)] (ρ.t 127) #[.slice none 0 0]).run P w.drew = .ok (.pointer none) w.drew := rfl
   have hUS := hUS0
   go_enter L.f169, Body.n169_ntmps ρ
   go_wp2
   go_region_o
   all_goals (go_wp2; go_ret; exact ⟨rfl, rfl, rfl, rfl, Nat.le_refl _, fun _ _ _ => rfl⟩)
  ·by_cases hc0 : cap = 0
   ·subst hc0
    have hUS := hUS0
    have c1 : w.drew.cell? ⟨b, 1, none⟩ = some (.slice (some ⟨g, 0, none⟩) 0 0) := by
     have : w.drew.heap[b]? = some (.cells #[ad, .slice (some ⟨g, 0, none⟩) 0 0] (ρ.t 72) (0, 0)) := h1
     rw [Lib.cell_of_heap this]; rfl
    have hSD : (Builtin.unsafeSliceData_ #[(ρ.t 37)] (ρ.t 127) #[.slice (some ⟨g, 0, none⟩) 0 0]).run P w.drew = .ok (.pointer (some ⟨w.drew.heap.size, 0, none⟩)) (w.drew.alloc (.view ⟨g, 0, none⟩ (ρ.t 5))) :=
     Lib.run_unsafeSliceData_zero w.drew _ _ (ρ.t 5) L.t127 ⟨g, 0, none⟩ 0 ((ρ.t 5), cur.size) (by have hg' : w.drew.heap[g]? = some (.cells cur (ρ.t 5) (0, 0)) := hg; simp [World.shape?, hg'])
    have c2 : (w.drew.alloc (.view ⟨g, 0, none⟩ (ρ.t 5))).cell? ⟨b, 1, none⟩ = some (.slice (some ⟨g, 0, none⟩) 0 0) := by
     have : (w.drew.alloc (.view ⟨g, 0, none⟩ (ρ.t 5))).heap[b]? = _ := (Lib.alloc_old w.drew _ b hlt).trans h1
     rw [Lib.cell_of_heap this]; rfl
    have c3 : (w.alloc (.view ⟨g, 0, none⟩ (ρ.t 5))).drew.cell? ⟨b, 1, none⟩ = some (.slice (some ⟨g, 0, none⟩) 0 0) := c2
    have c0 : w.cell? ⟨b, 1, none⟩ = some (.slice (some ⟨g, 0, none⟩) 0 0) := c1
    go_enter L.f169, Body.n169_ntmps ρ
    go_wp2
    go_region_o
    all_goals (go_wp2; go_ret; exact ⟨rfl, rfl, rfl, rfl, by show w.heap.size ≤ (w.drew.alloc _).heap.size; rw [World.size_alloc]; exact Nat.le_succ _, fun x hx _ => Lib.alloc_old w.drew _ x hx⟩)
   ·have hUS := hUS0
    have c1 : w.drew.cell? ⟨b, 1, none⟩ = some (.slice (some ⟨g, 0, none⟩) 0 cap) := by
     have : w.drew.heap[b]? = some (.cells #[ad, .slice (some ⟨g, 0, none⟩) 0 cap] (ρ.t 72) (0, 0)) := h1
     rw [Lib.cell_of_heap this]; rfl
    have hSD : (Builtin.unsafeSliceData_ #[(ρ.t 37)] (ρ.t 127) #[.slice (some ⟨g, 0, none⟩) 0 cap]).run P w.drew = .ok (.pointer (some ⟨g, 0, none⟩)) w.drew :=
     Lib.run_unsafeSliceData_row _ _ _ _ _ _ hc0
    clear hc0
    go_enter L.f169, Body.n169_ntmps ρ
    go_wp2
    go_region_o
    all_goals (go_wp2; go_ret; exact ⟨rfl, rfl, rfl, rfl, Nat.le_refl _, fun _ _ _ => rfl⟩)
 ·rcases h3 with ⟨_, hz, _⟩ | ⟨g, cap, cur, rfl, rfl, hg, q1, q2, q3, q4⟩
  ·exact absurd hz h0
  have hown : w.ownsRow 0 (ρ.t 5) 1 (.slice (some ⟨g, 0, none⟩) s.size cap) s.size (sbCells s) := (sb_own (.inr ⟨g, cap, cur, rfl, rfl, hg, q1, q2, q3, q4⟩)).1
  have c1 : w.drew.cell? ⟨b, 1, none⟩ = some (.slice (some ⟨g, 0, none⟩) s.size cap) := by
   have : w.drew.heap[b]? = some (.cells #[ad, .slice (some ⟨g, 0, none⟩) s.size cap] (ρ.t 72) (0, 0)) := h1
   rw [Lib.cell_of_heap this]; rfl
  have hSD : (Builtin.unsafeSliceData_ #[(ρ.t 37)] (ρ.t 127) #[.slice (some ⟨g, 0, none⟩) s.size cap]).run P w.drew = .ok (.pointer (some ⟨g, 0, none⟩)) w.drew :=
   Lib.run_unsafeSliceData_row _ _ _ _ _ _ (by omega)
  have hUS : (Builtin.unsafeString_ #[(ρ.t 127), (ρ.t 3)] (ρ.t 9) #[.pointer (some ⟨g, 0, none⟩), .int .i64 s.size]).run P w.drew = .ok (.string s) (w.drew.freeze ⟨g, 0, none⟩ s.size) := by
   have hr := Lib.run_unsafeString_row (P := P) w.drew (ρ.t 127) (ρ.t 3) (ρ.t 9) (ρ.t 5) L.t127 X.cellsByte g cur.size (by have hg' : w.drew.heap[g]? = some (.cells cur (ρ.t 5) (0, 0)) := hg; simp [World.shape?, hg']) s.data.toList (by intro e; rw [e] at hl; exact h0 (by simpa using hl.symm)) (by omega) (by unfold maxEl at q2; omega) (by
    intro j x hx
    have := hown.cells (g := g) rfl j (.int .u8 x.toNat) (by simp [sbCells, hx])
    exact this)
   rw [hl] at hr
   exact hr
  go_enter L.f169, Body.n169_ntmps ρ
  go_wp2
  go_region_o
  all_goals (go_wp2; go_ret; exact ⟨rfl, (freeze_out w.drew g s.size).1, (freeze_out w.drew g s.size).2.1, (freeze_out w.drew g s.size).2.2.1, Nat.le_of_eq (freeze_out w.drew g s.size).2.2.2.1.symm, fun x _ hn => (freeze_out w.drew g s.size).2.2.2.2 x (fun e => hn (by simp [e]))⟩)

theorem wrS_ok (L : Lays.n166 P ρ) (X : Builder.Extra P ρ) (c : Callable P (ρ.f 166)) (s : ByteArray) (hz : s.size ≤ 1000000000) : AFB P (ρ.f 166) (ρ.t 72) (ρ.t 5) [.sc (.string s)] s := by
 refine ⟨c, fun w vs old b s0 F _ _ hs hb hnb _ _ ha => ?_⟩
 simp only [ArgsRep] at ha
 obtain ⟨v, r, F0, rfl, h1, h2, _, rfl⟩ := ha
 have hv : v = .string s := by
  simp only [Rep] at h1
  obtain ⟨_, hc, _⟩ := h1
  cases v <;> simp_all [Value.cells, D.fits, Value.oneCell']
 subst hv
 refine (wrS_run L X b s0 s F w hs hb hnb).mono ?_
 rintro e w' ⟨rfl, h⟩
 exact ⟨⟨_, rfl⟩, h⟩
theorem bdS_ok (L : Lays.n169 P ρ) (X : Builder.Extra P ρ) (c : Callable P (ρ.f 169)) : AFS P (ρ.f 169) (ρ.t 72) (ρ.t 5) :=
 ⟨c, fun w b s F hb hnb => bdS_run L X b s F w hb hnb⟩
end Go.Ax
namespace Go.Ax
open Go.ChangeShapes Go.WideShapes Go.RowKit

section
variable {P : Program}

theorem lifted_laid {C : Checked} {os : Os} {f : FuncId} {fn : Func} {s : ChangeSpec} {H : Type} {enc : TypeId × Value → H} {t : TypeId} {l : List (String × DataW Unit)}
  (own : ownKnob C.prog.godebug = none) (started : os.Started) (noInit : C.prog.inits.idxOf? f = none) (hfn : C.prog.funcs[f]? = some fn)
  (hl : laidOutB C.prog = true) (hvars : s.vars = []) (hres : fn.resultTypes = #[t]) (ht : C.prog.underlying t = some .bool) (hp : ∀ t ∈ fn.params.toList, C.prog.readableRec t = true ∧ t < C.prog.types.size)
  (hs : ∀ ds : List (DataW H), ds.length = fn.params.size → (s.fn H ds).results = [.lit (.bool true)] ∧ (s.fn H ds).args = ds ∧ (s.fn H ds).vars = [])
  (witness : ∃ (w : World) (tape : Tape) (i : Input), w.os = os ∧ (w.forCall tape i).Shaped C.prog ∧ i.vars = [] ∧ Input.okWide C.prog (w.forCall tape i) .any w.heap.size f i ∧
   ((s.pre enc C.prog fn [] false (w.forCall tape i).memory i.args ∧ laidMetH C.prog l (w.forCall tape i).memory) ∧ sizedMet enc C.prog fn (OpenSpec.ofChange s) false (w.forCall tape i).memory i.args) ∧ ({} : Assume).holds C.prog (lone (Frame.enter C.prog f i.args .normal) [] (w.forCall tape i)))
  (hwk : ∀ w : World, laidMetH C.prog l w → WOk C.prog w)
  (h : ∀ (W : World) (b : Nat) (args : Array Value) (ds : List (DataW H)) (ps : List MemPlace), (∀ (j : Nat) u v, fn.params.toList[j]? = some u → args[j]? = some v → Value.okWide C.prog W .any b u v) →
   DataW.TrodAll enc C.prog W 0 (fun _ => true) true fn.params.toList args.toList ds ps → ∃ DS, AF C.prog f DS (.own (eB true)) ∧ ArgsRep W.heap (fun _ => True) DS args.toList) :
  ReturnsInHanded {} C os f .any (fun w args => (s.pre enc C.prog fn [] false w args ∧ laidMetH C.prog l w) ∧ sizedMet enc C.prog fn (OpenSpec.ofChange s) false w args) (s.post enc C.prog fn false true false false) := by
 refine returnsInHanded_of_change_and (X := fun w _ => laidMetH C.prog l w) (fun _ _ _ hh h => h.of_heap hh) own started noInit hfn witness ?_
 intro W base args ds gs before hval hW y1 y2 y3 y4
 obtain ⟨p, q, hA, hV, _, _, _⟩ := id hW
 rw [hvars] at hV
 obtain ⟨rfl, rfl⟩ := trodVars_none hV
 obtain ⟨DS, hAF, hR⟩ := h W base args ds p (fun j u v h1 h2 => hval j u v (by simpa using h1) h2) hA
 have hlen : ds.length = fn.params.size := by
  have : ∀ {ts : List TypeId} {vs : List Value} {ds : List (DataW H)} {ps : List MemPlace}, DataW.TrodAll enc C.prog W 0 (fun _ => true) true ts vs ds ps → ds.length = ts.length := by
   intro ts
   induction ts with
   | nil => intro vs ds ps h; obtain ⟨rfl, rfl, rfl⟩ := trodAll_nil h; rfl
   | cons t ts ih =>
    intro vs ds ps h
    obtain ⟨v, vs, d, ds, p, q, rfl, rfl, rfl, h1, h2⟩ := trodAll_cons h
    simp [ih h2]
  simpa using this hA
 have := hAF.2 W args.toList (fun _ => True) (hwk W y3) hR
 rw [show args.toList.toArray = args from by simp] at this
 refine this.mono ?_
 rintro e W' ⟨v, F, G, rfl, hb, hr, _⟩
 simp only [RetRep, Rep, eB] at hr
 obtain ⟨_, ⟨_, hc, _⟩, hf⟩ := hr
 have hv : v = .bool true := by
  cases v <;> simp_all [Value.cells, D.fits, Value.oneCell']
 subst hv
 exact ⟨_, rfl, post_true hl hvars hres ht hp (by simpa using hs ds hlen) hW hb⟩

end
end Go.Ax
