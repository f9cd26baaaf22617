/- Contracts of functions of the seat, proved over the engine. No condition. -/
import Derived.Test.YtmcbkgcnlopjiaaXxC
import Derived.Test.YtmcbkgcnlopjiaaXxD
import Derived.Test.YtmcbkgcnlopjiaaXxB
import Derived.Test.YtmcbkgcnlopjiaaXxA
set_option linter.unusedSimpArgs false
set_option linter.unusedVariables false
set_option linter.unnecessarySimpa false
namespace Go.Ax
set_option maxRecDepth 20000
set_option maxHeartbeats 4000000

def k_cloneL : RC := (.seq (.r [.o (.mv 2 (.c (.ls (some true) 1 [])))]) (.seq (.seq (.r [.m 3 0, .o (.snil 4 false (.t 3) (.c (.ls (some true) 1 [])))]) (.cond (.t 4) (.seq (.r [.o (.mv 2 (.c (.ls (some true) 1 [])))]) .ret) .skip)) (.seq (.r [.o (.bs 5 1 (.sc (.int .i64 0)) 0 []), .m 6 0, .o (.app 7 1 8 (.t 5) (.t 6)), .m 2 7]) .ret)))
def K_cloneL (P : Program) (fno : Nat) : Prop := ∀ (l : List Int) (hl : l.length ≤ 1000000), AF P fno [eL l] (.arr 1 (l.map eI))
theorem a_cloneL {P : Program} (hm : P.follows .mixedOrders = true) {g : Nat} (hr : resF P g = some (8, k_cloneL, [.t 2])) : K_cloneL P g := by
 intro l hl
 unfold eL
 refine af_of_res hr hm rfl fun hb => ?_
 cases l with
 | nil =>
  simp +contextual (maxSteps := 5000000) -implicitDefEqProofs only [k_cloneL, go_sem]
  exact ⟨by unfold maxEl; omega, by simp⟩
 | cons b l =>
  simp +contextual (maxSteps := 5000000) -implicitDefEqProofs only [k_cloneL, np_L, go_sem]
  simp only [lK] at hl
  exact ⟨by omega, by unfold maxEl; omega, sz_L (l := b :: l)⟩
theorem tkS {path : List Int} {x : D} : List.take (path.length + 1) (path.map eI ++ [x]) = path.map eI ++ [x] := List.take_of_length_le (by simp)
def lD (nn : Option Bool) (L : List (List Int)) : D := .ls nn 1 (L.map eL)
def nnL2 (nn : Option Bool) (L : List (List Int)) : Option Bool := match L with | [] => nn | _ :: _ => some false
theorem nnL2_app {nn : Option Bool} {a b : List (List Int)} : nnL2 (nnL2 nn a) b = nnL2 nn (a ++ b) := by
 cases a <;> cases b <;> rfl

def k_sites (g f1 f2 : Nat) : RC := (.seq (.r [.b 4 6 0, .o (.mv 8 (.c (.ls (some true) 1 [])))]) (.seq (.seq (.r [.L 14 6 4, .m 15 1, .c 16 f1 [.t 14, .t 15], .m 13 16, .o (.ext 17 (.t 13) 0), .o (.ext 18 (.t 13) 1), .o (.zer 9 6 .zp), .s 6 9 17, .m 10 18]) (.seq (.r [.m 19 10]) (.cond (.t 19) (.r [.m 20 3, .m 21 2, .c 22 f2 [.t 21], .o (.bs 23 1 (.ls (some true) 1 []) 1 [(0, (.t 22))]), .o (.app 24 1 24 (.t 20) (.t 23)), .m 3 24]) .skip))) (.seq (.seq (.r [.f 25 5 4, .l 26 1 25, .o (.len 27 (.t 26)), .v 28 (.ci 0)]) (.blk 0 (.loop (.seq (.r [.o (.bin 29 .lss (.t 28) (.t 27))]) (.seq (.cond (.t 29) .skip (.exit 0)) (.seq (.blk 1 (.seq (.r [.m 30 28, .o (.ia 31 6 (.t 26) (.t 28)), .L 32 6 31, .o (.zer 12 6 .zp), .m 11 30, .s 6 12 32]) (.regL [.L 33 6 12, .m 34 1, .m 35 2, .c 36 f2 [.t 35], .m 37 11, .o (.bs 38 1 (.sc (.int .i64 0)) 1 [(0, (.t 37))]), .m 40 3] [([(.ld 33 true 6 (.t 12))], .o (.app 39 1 8 (.t 36) (.t 38))), ([(.ld 33 true 6 (.t 12))], .o (.wcl (some 41) g [.t 33, .t 34, .t 39, .t 40])), ([], .m 3 41)]))) (.r [.o (.bin 42 .add (.t 28) (.ci 1)), .m 28 42]))))))) (.seq (.r [.m 43 3, .m 8 43]) .ret))))
def K_sites (P : Program) (fno : Nat) : Prop := ∀ (gs : Int × Int) (r : Int) (p : Pg), okT gs p → (∀ (path : List Int), path.length + depthP p ≤ 1000 → sizeP p ≤ 1000000 → AFW P fno [] [.im none (eP p), .im none (eI r), .im none (eL path), .im none (.ls (some true) 1 [])] [] (.own (lD (nnL2 (some true) (stP r p path)) (stP r p path)))) ∧ (∀ (path : List Int) (nn : Option Bool) (L : List (List Int)), path.length + depthP p ≤ 1000 → L.length + sizeP p ≤ 1000000 → AFW P fno [.own (lD nn L)] [.im none (eP p), .im none (eI r), .im none (eL path), .tr 3000000000] [] (.own (lD (nnL2 nn (stP r p path)) (L ++ stP r p path))))
theorem a_sites {P : Program} (hm : P.follows .mixedOrders = true) {g f1 f2 : Nat} (hr : resF P g = some (44, k_sites g f1 f2, [.t 8])) (hc1 : K_rewritten P f1) (hc2 : K_cloneL P f2) : K_sites P g := by
 intro gs r p hp
 refine Pg.ind (p := fun p => okT gs p → (∀ (path : List Int), path.length + depthP p ≤ 1000 → sizeP p ≤ 1000000 → AFW P g [] [.im none (eP p), .im none (eI r), .im none (eL path), .im none (.ls (some true) 1 [])] [] (.own (lD (nnL2 (some true) (stP r p path)) (stP r p path)))) ∧ (∀ (path : List Int) (nn : Option Bool) (L : List (List Int)), path.length + depthP p ≤ 1000 → L.length + sizeP p ≤ 1000000 → AFW P g [.own (lD nn L)] [.im none (eP p), .im none (eI r), .im none (eL path), .tr 3000000000] [] (.own (lD (nnL2 nn (stP r p path)) (L ++ stP r p path))))) (fun k n c nn0 ks ih hp => ?_) p hp
 obtain ⟨ck, cn, cnn, cks, rfl⟩ := Ex.ex c
 have hk2 := okT_le hp
 have hkid := (okT_form hp).2.2.2
 refine ⟨fun path hd hl => ?_, fun path nn L hd hl => ?_⟩
 ·rw [depthP_mk] at hd
  rw [sizeP_mk] at hl
  obtain ⟨q, hA⟩ := hc1 gs (Pg.mk k n (Ex.mk ck cn cnn cks) nn0 ks) r hp
  have hC := hc2 path (by omega)
  generalize hbb : fitsP (Pg.mk k n (Ex.mk ck cn cnn cks) nn0 ks) r = bb at hA
  simp only [eP_mk, eI, eB, Ex.k, Ex.n, Ex.nn, Ex.ks] at hA
  simp only [eL] at hC
  cases bb
  ·refine afw_of_res (wv := .no) hr hm rfl rfl rfl fun hb ha => ?_
   simp +contextual (maxSteps := 5000000) -implicitDefEqProofs only [k_sites, lD, eL, go_sem]
   refine callQ_self (by rfl) hA ?_
   simp +contextual (maxSteps := 5000000) -implicitDefEqProofs only [go_sem]
   refine vc_onU (α := Nat) [3, 4, 9, 11, 12, 24, 25, 28, 29, 30, 31, 32, 33, 34, 35, 36, 37, 38, 39, 40, 41, 42] (fun i => match i with | 0 => [(28, .im none (.sc (.int .i64 0))), (3, .im none (.ls (some true) 1 []))] | j + 1 => [(28, .im none (.sc (.int .i64 ((j + 1 : Nat) : Int)))), (3, .tr 41)]) (fun i => match i with | 0 => [] | j + 1 => [(41, .own (.ls (nnL2 (some true) (upTo r (Pg.mk k n (Ex.mk ck cn cnn cks) nn0 ks) ks path (j + 1))) 1 ((upTo r (Pg.mk k n (Ex.mk ck cn cnn cks) nn0 ks) ks path (j + 1)).map eL)))]) (fun i => i ≤ ks.length) (fun i => ks.length - i) 0 (Ent.to [4, 9] (by simp only [go_sem]; rfl) rfl (by simp) (by rfl) (by simp only [subEnv, go_sem, keep, memN] <;> simp)) (Nat.zero_le _) ?_
   intro i hi0
   by_cases hi : i < ks.length
   ·cases i with
    | zero =>
     have hz : (0 : Int) < ks.length := by omega
     have e1 := at_map (f := eP) hi
     have hup := upTo_s (r := r) (p := (Pg.mk k n (Ex.mk ck cn cnn cks) nn0 ks)) (path := path) hi
     have hdk := depthPs_mem (List.getElem_mem hi)
     have hsk := upTo_size (r := r) (p := (Pg.mk k n (Ex.mk ck cn cnn cks) nn0 ks)) (path := path) hi
     have h0 : (upTo r (Pg.mk k n (Ex.mk ck cn cnn cks) nn0 ks) ks path (0 + 1)) = stP r ks[0] (path ++ [((0 : Nat) : Int)]) := by rw [hup, upTo_0]; simp [pre0, hbb]
     have ih1 := (ih ks[0] (List.getElem_mem hi) (hkid _ (List.getElem_mem hi))).1 (path ++ [((0 : Nat) : Int)]) (by simp only [lP, lK, lZ]; omega) (by omega)
     rw [← h0] at ih1
     generalize hM2 : (upTo r (Pg.mk k n (Ex.mk ck cn cnn cks) nn0 ks) ks path (0 + 1)) = M2 at ih1
     simp only [lD, eL, eI, List.map_append, lC, lN, Int.natCast_zero] at ih1
     simp +contextual (maxSteps := 5000000) -implicitDefEqProofs only [hz, e1, encP.sub, go_sem]
     refine callQ_self (by rfl) hC ?_
     simp +contextual (maxSteps := 5000000) -implicitDefEqProofs only [encP.sub, go_sem]
     refine ⟨by decide, ⟨by omega, by unfold maxEl; omega, by simp [D.size]⟩, ?_⟩
     refine wcl_self [] [] (by rfl) (by rfl) (by simp [argsW, AV.argW, AV.rd, AV.den, rdSm, smW, tokD, tokW, posW, St.unit, lu, tkS]) ih1 rfl trivial ?_
     simp +contextual (maxSteps := 5000000) -implicitDefEqProofs only [go_sem]
     rw [wrap_i64 (by omega) (by omega)]
     exact ⟨0 + 1, by omega, by omega, Ent.to [12, 36] (by simp only [go_sem]; rfl) rfl (by simp [hM2]) (by rfl) (by simp only [subEnv, go_sem] <;> simp)⟩
    | succ i =>
     have e1 := at_map (f := eP) hi
     have hup := upTo_s (r := r) (p := (Pg.mk k n (Ex.mk ck cn cnn cks) nn0 ks)) (path := path) hi
     have hub := upTo_len (r := r) (p := (Pg.mk k n (Ex.mk ck cn cnn cks) nn0 ks)) (ks := ks) (path := path) (i := (i + 1))
     have hdk := depthPs_mem (List.getElem_mem hi)
     have hsk := upTo_size (r := r) (p := (Pg.mk k n (Ex.mk ck cn cnn cks) nn0 ks)) (path := path) hi
     have ih1 := (ih ks[(i + 1)] (List.getElem_mem hi) (hkid _ (List.getElem_mem hi))).2 (path ++ [(((i + 1) : Nat) : Int)]) (nnL2 (some true) (upTo r (Pg.mk k n (Ex.mk ck cn cnn cks) nn0 ks) ks path (i + 1))) (upTo r (Pg.mk k n (Ex.mk ck cn cnn cks) nn0 ks) ks path (i + 1)) (by simp only [lP, lK, lZ]; omega) (by omega)
     rw [nnL2_app, ← hup] at ih1
     simp only [lD, eL, eI, List.map_append, lC, lN] at ih1
     simp +contextual (maxSteps := 5000000) -implicitDefEqProofs only [hi, e1, encP.sub, go_sem]
     refine callQ_self (by rfl) hC ?_
     simp +contextual (maxSteps := 5000000) -implicitDefEqProofs only [encP.sub, go_sem]
     refine ⟨by decide, ⟨by omega, by unfold maxEl; omega, by simp [D.size]⟩, ?_⟩
     refine wcl_self [] [41] (by rfl) (by rfl) (by simp [argsW, AV.argW, AV.rd, AV.den, rdSm, smW, trW, tokD, tokW, posW, St.unit, lu, tkS]) ih1 rfl trivial ?_
     simp +contextual (maxSteps := 5000000) -implicitDefEqProofs only [go_sem]
     rw [wrap_i64 (by omega) (by omega)]
     exact ⟨(i + 1) + 1, by omega, by omega, Ent.to [12, 36] (by simp only [go_sem]; rfl) rfl (by simp) (by rfl) (by simp only [subEnv, go_sem] <;> simp)⟩
   ·cases i with
    | zero =>
     have hz : ¬ (0 : Int) < ks.length := by omega
     have hn : stP r (Pg.mk k n (Ex.mk ck cn cnn cks) nn0 ks) path = [] := by rw [← upTo_all (ks := ks) (i := 0) (by omega), upTo_0]; simp [pre0, hbb]
     rw [hn]
     simp +contextual (maxSteps := 5000000) -implicitDefEqProofs only [hz, nnL2, go_sem]
     try exact D.Le.refl _
    | succ i =>
     simp +contextual (maxSteps := 5000000) -implicitDefEqProofs only [hi, go_sem]
     rw [upTo_all (by omega)]
     exact D.Le.refl _
  ·refine afw_of_res (wv := .no) hr hm rfl rfl rfl fun hb ha => ?_
   simp +contextual (maxSteps := 5000000) -implicitDefEqProofs only [k_sites, lD, eL, go_sem]
   refine callQ_self (by rfl) hA ?_
   simp +contextual (maxSteps := 5000000) -implicitDefEqProofs only [go_sem]
   refine callQ_self (by rfl) hC ?_
   simp +contextual (maxSteps := 5000000) -implicitDefEqProofs only [go_sem]
   refine ⟨by decide, ⟨by unfold maxEl; omega, by simp [D.size]⟩, ?_⟩
   refine vc_onU (α := Nat) [3, 4, 9, 11, 12, 24, 25, 28, 29, 30, 31, 32, 33, 34, 35, 36, 37, 38, 39, 40, 41, 42] (fun i => [(28, .im none (.sc (.int .i64 i))), (3, .tr 41)]) (fun i => [(41, .own (.ls (nnL2 (some true) (upTo r (Pg.mk k n (Ex.mk ck cn cnn cks) nn0 ks) ks path i)) 1 ((upTo r (Pg.mk k n (Ex.mk ck cn cnn cks) nn0 ks) ks path i).map eL)))]) (fun i => i ≤ ks.length) (fun i => ks.length - i) 0 ((by
     refine Ent.trans (Ent.smTr _ 3 24 (by rfl) (by rfl) (by rfl)) ?_
     refine Ent.trans (Ent.ren _ 24 41 [3] (.ls (some false) 1 [.ls (some false) 1 (path.map eI)]) (by rfl) (by rfl) (by simp; rfl)) ?_
     exact Ent.to [4, 9] (by simp only [go_sem]; rfl) rfl (by simp [upTo_0, pre0, hbb, nnL2, eL]) (by rfl) (by simp only [subEnv, go_sem, keep, memN] <;> simp))) (Nat.zero_le _) ?_
   intro i hi0
   by_cases hi : i < ks.length
   ·have e1 := at_map (f := eP) hi
    have hup := upTo_s (r := r) (p := (Pg.mk k n (Ex.mk ck cn cnn cks) nn0 ks)) (path := path) hi
    have hub := upTo_len (r := r) (p := (Pg.mk k n (Ex.mk ck cn cnn cks) nn0 ks)) (ks := ks) (path := path) (i := i)
    have hdk := depthPs_mem (List.getElem_mem hi)
    have hsk := upTo_size (r := r) (p := (Pg.mk k n (Ex.mk ck cn cnn cks) nn0 ks)) (path := path) hi
    have ih1 := (ih ks[i] (List.getElem_mem hi) (hkid _ (List.getElem_mem hi))).2 (path ++ [((i : Nat) : Int)]) (nnL2 (some true) (upTo r (Pg.mk k n (Ex.mk ck cn cnn cks) nn0 ks) ks path i)) (upTo r (Pg.mk k n (Ex.mk ck cn cnn cks) nn0 ks) ks path i) (by simp only [lP, lK, lZ]; omega) (by omega)
    rw [nnL2_app, ← hup] at ih1
    generalize hN : nnL2 (some true) (upTo r (Pg.mk k n (Ex.mk ck cn cnn cks) nn0 ks) ks path i) = N at ih1 ⊢
    generalize hN2 : nnL2 (some true) (upTo r (Pg.mk k n (Ex.mk ck cn cnn cks) nn0 ks) ks path (i + 1)) = N2 at ih1
    generalize hM : (upTo r (Pg.mk k n (Ex.mk ck cn cnn cks) nn0 ks) ks path i) = M at ih1 ⊢
    generalize hM2 : (upTo r (Pg.mk k n (Ex.mk ck cn cnn cks) nn0 ks) ks path (i + 1)) = M2 at ih1
    simp only [lD, eL, eI, List.map_append, lC, lN] at ih1
    simp +contextual (maxSteps := 5000000) -implicitDefEqProofs only [hi, e1, encP.sub, go_sem]
    refine callQ_self (by rfl) hC ?_
    simp +contextual (maxSteps := 5000000) -implicitDefEqProofs only [encP.sub, go_sem]
    refine ⟨by decide, ⟨by omega, by unfold maxEl; omega, by simp [D.size]⟩, ?_⟩
    refine wcl_self [] [41] (by rfl) (by rfl) (by simp [argsW, AV.argW, AV.rd, AV.den, rdSm, smW, trW, tokD, tokW, posW, St.unit, lu, tkS]) ih1 rfl trivial ?_
    simp +contextual (maxSteps := 5000000) -implicitDefEqProofs only [go_sem]
    rw [wrap_i64 (by omega) (by omega)]
    subst hN2
    subst hM2
    exact ⟨i + 1, by omega, by omega, Ent.to [12, 36] (by simp only [go_sem]; rfl) rfl (by simp) (by rfl) (by simp only [subEnv, go_sem] <;> simp)⟩
   ·simp +contextual (maxSteps := 5000000) -implicitDefEqProofs only [hi, go_sem]
    rw [upTo_all (by omega)]
    exact D.Le.refl _
 ·rw [depthP_mk] at hd
  rw [sizeP_mk] at hl
  obtain ⟨q, hA⟩ := hc1 gs (Pg.mk k n (Ex.mk ck cn cnn cks) nn0 ks) r hp
  have hC := hc2 path (by omega)
  generalize hbb : fitsP (Pg.mk k n (Ex.mk ck cn cnn cks) nn0 ks) r = bb at hA
  simp only [eP_mk, eI, eB, Ex.k, Ex.n, Ex.nn, Ex.ks] at hA
  simp only [eL] at hC
  cases bb
  ·refine afw_of_res (wv := .no) hr hm rfl rfl rfl fun hb ha => ?_
   simp +contextual (maxSteps := 5000000) -implicitDefEqProofs only [k_sites, lD, eL, go_sem]
   refine callQ_self (by rfl) hA ?_
   simp +contextual (maxSteps := 5000000) -implicitDefEqProofs only [go_sem]
   refine vc_onU (α := Nat) [3, 4, 9, 11, 12, 24, 25, 28, 29, 30, 31, 32, 33, 34, 35, 36, 37, 38, 39, 40, 41, 42] (fun i => [(28, .im none (.sc (.int .i64 i))), (3, .tr 41)]) (fun i => [(41, .own (.ls (nnL2 nn (upTo r (Pg.mk k n (Ex.mk ck cn cnn cks) nn0 ks) ks path i)) 1 ((L ++ (upTo r (Pg.mk k n (Ex.mk ck cn cnn cks) nn0 ks) ks path i)).map eL)))]) (fun i => i ≤ ks.length) (fun i => ks.length - i) 0 ((by
     refine Ent.trans (Ent.ren _ 3000000000 41 [3] (.ls nn 1 (L.map eL)) (by rfl) (by rfl) (by simp; rfl)) ?_
     exact Ent.to [4, 9] (by simp only [go_sem]; rfl) rfl (by simp [upTo_0, pre0, hbb, nnL2]) (by rfl) (by simp only [subEnv, go_sem, keep, memN] <;> simp))) (Nat.zero_le _) ?_
   intro i hi0
   by_cases hi : i < ks.length
   ·have e1 := at_map (f := eP) hi
    have hup := upTo_s (r := r) (p := (Pg.mk k n (Ex.mk ck cn cnn cks) nn0 ks)) (path := path) hi
    have hub := upTo_len (r := r) (p := (Pg.mk k n (Ex.mk ck cn cnn cks) nn0 ks)) (ks := ks) (path := path) (i := i)
    have hdk := depthPs_mem (List.getElem_mem hi)
    have hsk := upTo_size (r := r) (p := (Pg.mk k n (Ex.mk ck cn cnn cks) nn0 ks)) (path := path) hi
    have ih1 := (ih ks[i] (List.getElem_mem hi) (hkid _ (List.getElem_mem hi))).2 (path ++ [((i : Nat) : Int)]) (nnL2 nn (upTo r (Pg.mk k n (Ex.mk ck cn cnn cks) nn0 ks) ks path i)) (L ++ (upTo r (Pg.mk k n (Ex.mk ck cn cnn cks) nn0 ks) ks path i)) (by simp only [lP, lK, lZ]; omega) (by simp only [lP]; omega)
    rw [nnL2_app, List.append_assoc, ← hup] at ih1
    generalize hN : nnL2 nn (upTo r (Pg.mk k n (Ex.mk ck cn cnn cks) nn0 ks) ks path i) = N at ih1 ⊢
    generalize hN2 : nnL2 nn (upTo r (Pg.mk k n (Ex.mk ck cn cnn cks) nn0 ks) ks path (i + 1)) = N2 at ih1
    generalize hM : (L ++ (upTo r (Pg.mk k n (Ex.mk ck cn cnn cks) nn0 ks) ks path i)) = M at ih1 ⊢
    generalize hM2 : (L ++ (upTo r (Pg.mk k n (Ex.mk ck cn cnn cks) nn0 ks) ks path (i + 1))) = M2 at ih1
    simp only [lD, eL, eI, List.map_append, lC, lN] at ih1
    simp +contextual (maxSteps := 5000000) -implicitDefEqProofs only [hi, e1, encP.sub, go_sem]
    refine callQ_self (by rfl) hC ?_
    simp +contextual (maxSteps := 5000000) -implicitDefEqProofs only [encP.sub, go_sem]
    refine ⟨by decide, ⟨by omega, by unfold maxEl; omega, by simp [D.size]⟩, ?_⟩
    refine wcl_self [] [41] (by rfl) (by rfl) (by simp [argsW, AV.argW, AV.rd, AV.den, rdSm, smW, trW, tokD, tokW, posW, St.unit, lu, tkS]) ih1 rfl trivial ?_
    simp +contextual (maxSteps := 5000000) -implicitDefEqProofs only [go_sem]
    rw [wrap_i64 (by omega) (by omega)]
    subst hN2
    subst hM2
    exact ⟨i + 1, by omega, by omega, Ent.to [12, 36] (by simp only [go_sem]; rfl) rfl (by simp) (by rfl) (by simp only [subEnv, go_sem] <;> simp)⟩
   ·simp +contextual (maxSteps := 5000000) -implicitDefEqProofs only [hi, go_sem]
    rw [upTo_all (by omega)]
    exact D.Le.refl _
  ·refine afw_of_res (wv := .no) hr hm rfl rfl rfl fun hb ha => ?_
   simp +contextual (maxSteps := 5000000) -implicitDefEqProofs only [k_sites, lD, eL, go_sem]
   refine callQ_self (by rfl) hA ?_
   simp +contextual (maxSteps := 5000000) -implicitDefEqProofs only [go_sem]
   refine callQ_self (by rfl) hC ?_
   simp +contextual (maxSteps := 5000000) -implicitDefEqProofs only [go_sem]
   refine ⟨by decide, ⟨by omega, by unfold maxEl; omega, by simp [D.size]⟩, ?_⟩
   refine vc_onU (α := Nat) [3, 4, 9, 11, 12, 24, 25, 28, 29, 30, 31, 32, 33, 34, 35, 36, 37, 38, 39, 40, 41, 42] (fun i => [(28, .im none (.sc (.int .i64 i))), (3, .tr 41)]) (fun i => [(41, .own (.ls (nnL2 nn (upTo r (Pg.mk k n (Ex.mk ck cn cnn cks) nn0 ks) ks path i)) 1 ((L ++ (upTo r (Pg.mk k n (Ex.mk ck cn cnn cks) nn0 ks) ks path i)).map eL)))]) (fun i => i ≤ ks.length) (fun i => ks.length - i) 0 ((by
     refine Ent.trans (Ent.ren _ 24 41 [3] (.ls (some false) 1 (L.map eL ++ [.ls (some false) 1 (path.map eI)])) (by rfl) (by rfl) (by simp; rfl)) ?_
     exact Ent.to [4, 9] (by simp only [go_sem]; rfl) rfl (by simp [upTo_0, pre0, hbb, nnL2, eL]) (by rfl) (by simp only [subEnv, go_sem, keep, memN] <;> simp))) (Nat.zero_le _) ?_
   intro i hi0
   by_cases hi : i < ks.length
   ·have e1 := at_map (f := eP) hi
    have hup := upTo_s (r := r) (p := (Pg.mk k n (Ex.mk ck cn cnn cks) nn0 ks)) (path := path) hi
    have hub := upTo_len (r := r) (p := (Pg.mk k n (Ex.mk ck cn cnn cks) nn0 ks)) (ks := ks) (path := path) (i := i)
    have hdk := depthPs_mem (List.getElem_mem hi)
    have hsk := upTo_size (r := r) (p := (Pg.mk k n (Ex.mk ck cn cnn cks) nn0 ks)) (path := path) hi
    have ih1 := (ih ks[i] (List.getElem_mem hi) (hkid _ (List.getElem_mem hi))).2 (path ++ [((i : Nat) : Int)]) (nnL2 nn (upTo r (Pg.mk k n (Ex.mk ck cn cnn cks) nn0 ks) ks path i)) (L ++ (upTo r (Pg.mk k n (Ex.mk ck cn cnn cks) nn0 ks) ks path i)) (by simp only [lP, lK, lZ]; omega) (by simp only [lP]; omega)
    rw [nnL2_app, List.append_assoc, ← hup] at ih1
    generalize hN : nnL2 nn (upTo r (Pg.mk k n (Ex.mk ck cn cnn cks) nn0 ks) ks path i) = N at ih1 ⊢
    generalize hN2 : nnL2 nn (upTo r (Pg.mk k n (Ex.mk ck cn cnn cks) nn0 ks) ks path (i + 1)) = N2 at ih1
    generalize hM : (L ++ (upTo r (Pg.mk k n (Ex.mk ck cn cnn cks) nn0 ks) ks path i)) = M at ih1 ⊢
    generalize hM2 : (L ++ (upTo r (Pg.mk k n (Ex.mk ck cn cnn cks) nn0 ks) ks path (i + 1))) = M2 at ih1
    simp only [lD, eL, eI, List.map_append, lC, lN] at ih1
    simp +contextual (maxSteps := 5000000) -implicitDefEqProofs only [hi, e1, encP.sub, go_sem]
    refine callQ_self (by rfl) hC ?_
    simp +contextual (maxSteps := 5000000) -implicitDefEqProofs only [encP.sub, go_sem]
    refine ⟨by decide, ⟨by omega, by unfold maxEl; omega, by simp [D.size]⟩, ?_⟩
    refine wcl_self [] [41] (by rfl) (by rfl) (by simp [argsW, AV.argW, AV.rd, AV.den, rdSm, smW, trW, tokD, tokW, posW, St.unit, lu, tkS]) ih1 rfl trivial ?_
    simp +contextual (maxSteps := 5000000) -implicitDefEqProofs only [go_sem]
    rw [wrap_i64 (by omega) (by omega)]
    subst hN2
    subst hM2
    exact ⟨i + 1, by omega, by omega, Ent.to [12, 36] (by simp only [go_sem]; rfl) rfl (by simp) (by rfl) (by simp only [subEnv, go_sem] <;> simp)⟩
   ·simp +contextual (maxSteps := 5000000) -implicitDefEqProofs only [hi, go_sem]
    rw [upTo_all (by omega)]
    exact D.Le.refl _

def k_imSitesOf (f1 f2 f3 : Nat) : RC := (.seq (.r [.b 3 2 0, .b 4 6 1, .o (.mv 6 (.c (.ls (some true) 1 []))), .v 7 (.ci 0)]) (.seq (.seq (.r [.L 8 2 3, .L 9 6 4, .c 10 f1 [.t 8, .t 9], .o (.un 11 .not (.t 10))]) (.cond (.t 11) (.seq (.r [.o (.mv 6 (.c (.ls (some true) 1 []))), .v 7 (.ci 1)]) .ret) .skip)) (.seq (.seq (.r [.m 12 2, .c 13 f2 [.t 12], .o (.un 14 .not (.t 13))]) (.cond (.t 14) (.seq (.r [.o (.mv 6 (.c (.ls (some true) 1 []))), .v 7 (.ci 2)]) .ret) .skip)) (.seq (.r [.L 15 6 4, .m 16 2, .o (.bs 17 1 (.sc (.int .i64 0)) 0 []), .o (.wcl (some 18) f3 [.t 15, .t 16, .t 17, (.c (.ls (some true) 1 []))]), .m 6 18, .v 7 (.ci 0)]) .ret))))
def K_imSitesOf (P : Program) (fno : Nat) : Prop := ∀ (gs : Int × Int) (p : Pg) (r : Int), AF P fno [eG gs, eP p, eI r] (.tup ([.own (lD (nnL2 (some true) (sitesR gs p r).1) (sitesR gs p r).1), .own (eI (sitesR gs p r).2)]))
theorem a_imSitesOf {P : Program} (hm : P.follows .mixedOrders = true) {g f1 f2 f3 : Nat} (hr : resF P g = some (19, k_imSitesOf f1 f2 f3, [.t 6, .t 7])) (hc1 : K_imValidProg P f1) (hc2 : K_isRule P f2) (hc3 : K_sites P f3) : K_imSitesOf P g := by
 intro gs p r
 have hV := hc1 gs p
 have hI := hc2 r
 unfold sitesR
 cases hv : okG gs && okP gs p with
 | false =>
  rw [hv] at hV
  simp only [bF, if_false, lD, nnL2, lN]
  refine af_of_res hr hm rfl fun hb => ?_
  simp +contextual (maxSteps := 5000000) -implicitDefEqProofs only [k_imSitesOf, encP.sub, go_sem]
  refine callQ_self (by rfl) hV ?_
  simp +contextual (maxSteps := 5000000) -implicitDefEqProofs only [go_sem]
  try exact D.Le.refl _
 | true =>
  rw [hv] at hV
  obtain ⟨z1, z2, z3⟩ := okP_sz (Bool.and_eq_true _ _ ▸ hv).2
  simp only [if_true]
  cases hi : isIn r 1 14 with
  | false =>
   rw [hi] at hI
   simp only [bF, if_false, lD, nnL2, lN]
   refine af_of_res hr hm rfl fun hb => ?_
   simp +contextual (maxSteps := 5000000) -implicitDefEqProofs only [k_imSitesOf, encP.sub, go_sem]
   refine callQ_self (by rfl) hV ?_
   simp +contextual (maxSteps := 5000000) -implicitDefEqProofs only [go_sem]
   refine callQ_self (by rfl) hI ?_
   simp +contextual (maxSteps := 5000000) -implicitDefEqProofs only [go_sem]
   try exact D.Le.refl _
  | true =>
   rw [hi] at hI
   simp only [if_true]
   have hS := (hc3 gs r p z3).1 [] (by simp only [lZ]; omega) (by omega)
   simp only [lD, eL, eI, lN] at hS ⊢
   refine af_of_res hr hm rfl fun hb => ?_
   simp +contextual (maxSteps := 5000000) -implicitDefEqProofs only [k_imSitesOf, encP.sub, go_sem]
   refine callQ_self (by rfl) hV ?_
   simp +contextual (maxSteps := 5000000) -implicitDefEqProofs only [go_sem]
   refine callQ_self (by rfl) hI ?_
   simp +contextual (maxSteps := 5000000) -implicitDefEqProofs only [encP.sub, go_sem]
   refine wcl_self [] [] (by rfl) (by rfl) (by simp [argsW, AV.argW, AV.rd, AV.den, rdSm, smW, tokD, tokW, posW, St.unit, lu]) hS rfl trivial ?_
   simp +contextual (maxSteps := 5000000) -implicitDefEqProofs only [go_sem]
   try exact D.Le.refl _
def Pg.ks' : Pg → List Pg
 | .mk _ _ _ _ ks => ks
theorem Pg.ks_mk {k n : Int} {c : Ex} {nn : Option Bool} {ks : List Pg} : (Pg.mk k n c nn ks).ks' = ks := rfl
theorem Pg.ex (e : Pg) : ∃ k n ck cn cnn cks nn ks, e = .mk k n (.mk ck cn cnn cks) nn ks := by
 obtain ⟨k, n, c, nn, ks⟩ := e
 obtain ⟨ck, cn, cnn, cks, rfl⟩ := Ex.ex c
 exact ⟨_, _, _, _, _, _, _, _, rfl⟩
mutual
def cntP : Pg → Nat
 | .mk _ _ c _ ks => 4 + cntE0 c + cntPs ks
def cntPs : List Pg → Nat
 | [] => 0
 | e :: es => cntP e + cntPs es
end
theorem cntPs_eq : ∀ ks : List Pg, cntPs ks = cntL cntP ks
 | [] => rfl
 | e :: es => by simp only [cntPs, cntL, cntPs_eq es]
def mkC (c : Ex) (m : Int) : Ex := .mk (m + 1 + 1) (m + 1 + 1 + 1) c.nn (mkL mkE cntE c.ks (m + 1 + 1 + 1 + 1))
mutual
def mkP : Pg → Int → Pg
 | .mk _ _ c nn ks => fun m => .mk m (m + 1) (mkC c m) nn (mkPs ks (m + 1 + 1 + 1 + 1 + cntE0 c))
def mkPs : List Pg → Int → List Pg
 | [] => fun _ => []
 | e :: es => fun m => mkP e m :: mkPs es (m + cntP e)
end
theorem mkPs_eq : ∀ (ks : List Pg) (m : Int), mkPs ks m = mkL mkP cntP ks m
 | [], _ => rfl
 | e :: es, m => by simp only [mkPs, mkL, mkPs_eq es]
theorem cntP_mk {k n : Int} {c : Ex} {nn : Option Bool} {ks : List Pg} : cntP (.mk k n c nn ks) = 4 + cntE0 c + cntL cntP ks := by rw [cntP, cntPs_eq]
theorem mkP_mk {k n ck cn : Int} {cnn : Option Bool} {cks : List Ex} {nn : Option Bool} {ks : List Pg} {m : Int} : mkP (.mk k n (.mk ck cn cnn cks) nn ks) m = .mk m (m + 1) (.mk (m + 1 + 1) (m + 1 + 1 + 1) cnn (mkL mkE cntE cks (m + 1 + 1 + 1 + 1))) nn (mkL mkP cntP ks (m + 1 + 1 + 1 + 1 + cntL cntE cks)) := by
 rw [mkP]; simp only [mkPs_eq, mkC, cntE0_mk]; rfl
theorem eP_mk2 {k n ck cn : Int} {cnn : Option Bool} {cks : List Ex} {nn : Option Bool} {ks : List Pg} : eP (.mk k n (.mk ck cn cnn cks) nn ks) = .ag [.sc (.int .i64 k), .sc (.int .i64 n), .sc (.int .i64 ck), .sc (.int .i64 cn), .ls cnn 3 (cks.map eE), .ls nn 6 (ks.map eP)] := by rw [eP_mk]; rfl

def k_markProgS (g f1 : Nat) : RC := (.seq (.r [.v 4 (.ci 0)]) (.seq (.seq (.r [.v 5 (.ci 0)]) (.blk 0 (.loop (.seq (.seq (.r [.m 6 5, .m 7 0, .o (.len 8 (.t 7)), .o (.bin 9 .lss (.t 6) (.t 8))]) (.cond (.t 9) .skip (.exit 0))) (.seq (.blk 1 (.seq (.r [.m 12 0, .m 13 5, .m 14 1, .o (.ia 15 6 (.t 12) (.t 13)), .f 16 0 15, .s 1 16 14]) (.seq (.r [.m 17 1, .o (.bin 18 .add (.t 17) (.ci 1)), .m 1 18]) (.seq (.r [.m 19 0, .m 20 5, .m 21 1, .o (.ia 22 6 (.t 19) (.t 20)), .f 23 1 22, .s 1 23 21]) (.seq (.r [.m 24 1, .o (.bin 25 .add (.t 24) (.ci 1)), .m 1 25]) (.seq (.r [.m 26 0, .m 27 5, .m 28 1, .o (.ia 29 6 (.t 26) (.t 27)), .f 30 2 29, .f 31 0 30, .s 1 31 28]) (.seq (.r [.m 32 1, .o (.bin 33 .add (.t 32) (.ci 1)), .m 1 33]) (.seq (.r [.m 34 0, .m 35 5, .m 36 1, .o (.ia 37 6 (.t 34) (.t 35)), .f 38 2 37, .f 39 1 38, .s 1 39 36]) (.seq (.r [.m 40 1, .o (.bin 41 .add (.t 40) (.ci 1)), .m 1 41]) (.seq (.r [.m 42 0, .m 43 5, .o (.ia 44 6 (.t 42) (.t 43)), .f 45 2 44, .f 46 2 45, .l 47 1 46, .m 48 1, .o (.mcl 49 f1 (.t 47) (.t 48)), .m 1 49]) (.r [.m 50 0, .m 51 5, .o (.ia 52 6 (.t 50) (.t 51)), .f 53 5 52, .l 54 1 53, .m 55 1, .o (.mcl 56 g (.t 54) (.t 55)), .m 1 56]))))))))))) (.r [.m 10 5, .o (.bin 11 .add (.t 10) (.ci 1)), .m 5 11])))))) (.seq (.r [.m 57 1, .m 4 57]) .ret)))
def K_markProgS (P : Program) (fno : Nat) : Prop := ∀ (nn : Option Bool) (xs : List Pg) (k : Int), 0 ≤ k → k + cntL cntP xs ≤ maxK → AFM P fno (.ls nn 6 (xs.map eP)) k (.ls nn 6 ((mkL mkP cntP xs k).map eP)) (k + cntL cntP xs)
theorem a_markProgS {P : Program} (hm : P.follows .mixedOrders = true) {g f1 : Nat} (hr : resF P g = some (58, k_markProgS g f1, [.t 4])) (hc1 : K_markExprS P f1) : K_markProgS P g := by
 intro nn xs k h0 hb
 refine Pg.ind (p := fun e => ∀ (nn : Option Bool) (k : Int), 0 ≤ k → k + cntL cntP e.ks' ≤ maxK → AFM P g (.ls nn 6 (e.ks'.map eP)) k (.ls nn 6 ((mkL mkP cntP e.ks' k).map eP)) (k + cntL cntP e.ks')) (fun _ _ _ _ xs ih nn k h0 hb => ?_) (Pg.mk 0 0 default none xs) nn k h0 hb
 simp only [Pg.ks_mk] at hb ⊢
 unfold maxK at hb
 refine afm_ls hr (by omega) (by simp [mkL_length]) fun hmx bx hbx => ?_
 have hmx : xs.length ≤ 9223372036854775807 := by simpa [maxEl] using hmx
 simp +contextual -implicitDefEqProofs only [k_markProgS, go_sem]
 refine m_loop (α := Nat) (fun i => ⟨bx, (mhalf mkP cntP xs k i).map eP, [(0, .rt), (1, .va (.int .i64 (k + cntL cntP (xs.take i)))), (5, .va (.int .i64 i))]⟩) (fun i => i ≤ xs.length) (fun i => xs.length - i) 0 (MEnt.env (by rw [mhalf_zero]) (by simp only [subM, go_sem, List.take_zero, cntL]; simp)) (Nat.zero_le _) ?_
 intro i j1
 by_cases hi : i < xs.length
 ·have hb1 : bx = true := hbx (by intro e; simp at e; subst e; simp at hi)
  have hcA := cntL_le (cnt := cntP) (l := xs) (i := i + 1)
  have hcB := cntL_succ (cnt := cntP) hi
  have e1 := mhalf_at (mk := mkP) (cnt := cntP) (f := eP) (k := k) hi
  have ihx := ih xs[i] (List.getElem_mem hi)
  have hset := mhalf_mset (mk := mkP) (cnt := cntP) (f := eP) (k := k) hi (d := eP (mkP xs[i] (k + cntL cntP (xs.take i)))) rfl
  obtain ⟨ek, en, ck, cn, cnn, cks, enn, eks, hx⟩ := Pg.ex xs[i]
  rw [hx] at e1 hcB ihx hset
  rw [eP_mk2] at e1
  rw [mkP_mk, eP_mk2] at hset
  rw [cntP_mk, cntE0_mk] at hcB
  simp only [Pg.ks_mk] at ihx
  have hat : ∀ d, D.at (((mhalf mkP cntP xs k i).map eP).set i d) i = d := fun d => at_set (by simp [mhalf_len]; exact hi)
  subst hb1
  have hw1 : IntKind.i64.wrap (k + cntL cntP (xs.take i) + 1) = k + cntL cntP (xs.take i) + 1 := wrap_i64 (by omega) (by omega)
  have hw2 : IntKind.i64.wrap (k + cntL cntP (xs.take i) + 1 + 1) = k + cntL cntP (xs.take i) + 1 + 1 := wrap_i64 (by omega) (by omega)
  have hw3 : IntKind.i64.wrap (k + cntL cntP (xs.take i) + 1 + 1 + 1) = k + cntL cntP (xs.take i) + 1 + 1 + 1 := wrap_i64 (by omega) (by omega)
  have hw4 : IntKind.i64.wrap (k + cntL cntP (xs.take i) + 1 + 1 + 1 + 1) = k + cntL cntP (xs.take i) + 1 + 1 + 1 + 1 := wrap_i64 (by omega) (by omega)
  simp +contextual -implicitDefEqProofs only [e1, hi, hw1, hw2, hw3, hw4, hat, mhalf_len, List.length_set, List.set_set, D.sub, D.isSc, D.put, D.isAg, D.cells, go_sem, iL, lM, iN]
  refine mMcl_self (e' := .ls cnn 3 ((mkL mkE cntE cks (k + cntL cntP (xs.take i) + 1 + 1 + 1 + 1)).map eE)) (n' := k + cntL cntP (xs.take i) + 1 + 1 + 1 + 1 + cntL cntE cks) ?_ ?_ ?_ ?_
  ·simp only [hat, D.sub, bF, if_false, List.getD_cons_succ, List.getD_cons_zero]
   exact hc1 cnn cks _ (by omega) (by unfold maxK; omega)
  ·simp only [hat, D.sub, bF, if_false, List.getD_cons_succ, List.getD_cons_zero, D.isAg]
  ·right; simp only [hat, D.isAg]
  simp +contextual -implicitDefEqProofs only [hat, hi, mhalf_len, List.length_set, List.set_set, D.put, D.cells, go_sem, iL, lM, iN]
  refine mMcl_self (e' := .ls enn 6 ((mkL mkP cntP eks (k + cntL cntP (xs.take i) + 1 + 1 + 1 + 1 + cntL cntE cks)).map eP)) (n' := k + cntL cntP (xs.take i) + 1 + 1 + 1 + 1 + cntL cntE cks + cntL cntP eks) ?_ ?_ ?_ ?_
  ·simp only [hat, D.sub, bF, if_false, List.getD_cons_succ, List.getD_cons_zero]
   exact ihx enn _ (by omega) (by unfold maxK; omega)
  ·simp only [hat, D.sub, bF, if_false, List.getD_cons_succ, List.getD_cons_zero, D.isAg]
  ·right; simp only [hat, D.isAg]
  simp +contextual -implicitDefEqProofs only [hat, List.set_set, D.put, D.cells, go_sem]
  rw [wrap_i64 (by omega) (by omega)]
  have hk : k + cntL cntP (xs.take i) + 1 + 1 + 1 + 1 + (cntL cntE cks : Int) + cntL cntP eks = k + cntL cntP (xs.take (i + 1)) := by rw [hcB]; push_cast; omega
  rw [hk]
  exact ⟨i + 1, by omega, by omega, MEnt.env (by rw [← hset]) (by simp only [subM, go_sem]; simp)⟩
 ·simp +contextual -implicitDefEqProofs only [hi, mhalf_len, go_sem, iL, lM, iN]
  have hl : xs.length ≤ i := by omega
  rw [mhalf_full hl, List.take_of_length_le hl]
  simp
def mkP0 : Pg → Int → Pg
 | .mk k n c nn ks => fun m => .mk k n (mkE0 c m) nn (mkL mkP cntP ks (m + cntE0 c))
def cntP0 : Pg → Nat
 | .mk _ _ c _ ks => cntE0 c + cntL cntP ks
theorem mkP0_mk {k n : Int} {c : Ex} {nn : Option Bool} {ks : List Pg} {m : Int} : mkP0 (.mk k n c nn ks) m = .mk k n (mkE0 c m) nn (mkL mkP cntP ks (m + cntE0 c)) := by rw [mkP0]
theorem cntP0_mk {k n : Int} {c : Ex} {nn : Option Bool} {ks : List Pg} : cntP0 (.mk k n c nn ks) = cntE0 c + cntL cntP ks := by rw [cntP0]

def k_markProg (f1 f2 : Nat) : RC := (.seq (.r [.b 2 6 0, .v 4 (.ci 0)]) (.seq (.r [.f 5 2 2, .L 6 3 5, .m 7 1, .o (.mcl 8 f1 (.t 6) (.t 7)), .m 1 8]) (.seq (.r [.f 9 5 2, .l 10 1 9, .m 11 1, .o (.mcl 12 f2 (.t 10) (.t 11)), .m 1 12]) (.seq (.r [.m 13 1, .m 4 13]) .ret))))
def K_markProg (P : Program) (fno : Nat) : Prop := ∀ (x : Pg) (k : Int), 0 ≤ k → k + cntP0 x ≤ maxK → AFM P fno (eP x) k (eP (mkP0 x k)) (k + cntP0 x)
theorem a_markProg {P : Program} (hm : P.follows .mixedOrders = true) {g f1 f2 : Nat} (hr : resF P g = some (14, k_markProg f1 f2, [.t 4])) (hc1 : K_markExpr P f1) (hc2 : K_markProgS P f2) : K_markProg P g := by
 intro x k h0 hb
 obtain ⟨ek, en, ck, cn, cnn, cks, enn, eks, rfl⟩ := Pg.ex x
 have hE := hc1 (.mk ck cn cnn cks)
 simp only [mkE0_mk, cntE0_mk, eE_mk] at hE
 rw [mkP0_mk, cntP0_mk, cntE0_mk, mkE0_mk, eP_mk2, eP_mk2]
 rw [cntP0_mk, cntE0_mk] at hb
 refine afm_ag hr (by omega) rfl fun hbd => ?_
 simp +contextual -implicitDefEqProofs only [k_markProg, D.size, D.sizeL, D.at, D.isAg, go_sem, Nat.zero_lt_one]
 refine mMcl_sg (e' := .ag [.sc (.int .i64 ck), .sc (.int .i64 cn), .ls cnn 3 ((mkL mkE cntE cks k).map eE)]) (n' := k + cntL cntE cks) ?_ rfl ?_
 ·exact hE k h0 (by omega)
 simp +contextual -implicitDefEqProofs only [D.put, D.cells, D.at, go_sem]
 refine mMcl_self (e' := .ls enn 6 ((mkL mkP cntP eks (k + cntL cntE cks)).map eP)) (n' := k + cntL cntE cks + cntL cntP eks) ?_ rfl (.inr rfl) ?_
 ·exact hc2 enn eks _ (by omega) (by omega)
 simp +contextual -implicitDefEqProofs only [D.put, D.cells, D.at, go_sem]
 simp only [Int.natCast_add, Int.add_assoc]
end Go.Ax
