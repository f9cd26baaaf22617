/- Contracts of functions of the seat, proved over the engine. No condition. -/
import Derived.Test.YtjnghfepojipiaaX50
set_option linter.unusedSimpArgs false
set_option linter.unusedVariables false
set_option linter.unnecessarySimpa false
namespace Go.Ax
set_option linter.unusedSimpArgs false
set_option maxRecDepth 20000
set_option maxHeartbeats 4000000
theorem setS_no {F : Rel → List Int → Nat → Nat → Bool} {z : Option Bool} {m : Mo} {e : Ex} {s : List Int} {k : Int} (h : askR m e s = k) (hk : k ≠ 0) : setS F z m e s = ((z, []), k) := by simp [setS, h, hk]
theorem setS_ok {F : Rel → List Int → Nat → Nat → Bool} {z : Option Bool} {m : Mo} {n : Nat} {e : Ex} {s : List Int} (hM : MoOk m n) (h : askR m e s = 0) : setS F z m e s = ((some false, imL (F (relE m e) s n) n), 0) := by
 have hn : m.2.1.toNat = n := by rw [hM.pts]; rfl
 simp [setS, h, hn]
theorem askR_cases {m : Mo} {e : Ex} {s : List Int} : askR m e s = 1 ∨ askR m e s = 2 ∨ (askR m e s = 0 ∧ okMo m = true ∧ okE m.1 e = true ∧ isSetB m.2.1 s = true) := by
 unfold askR
 by_cases h1 : okMo m = true ∧ okE m.1 e = true
 ·rw [if_pos h1]
  by_cases h2 : isSetB m.2.1 s = true
  ·rw [if_pos h2]; exact .inr (.inr ⟨rfl, h1.1, h1.2, h2⟩)
  ·rw [if_neg h2]; exact .inr (.inl rfl)
 ·rw [if_neg h1]; exact .inl rfl
def hitT (R : Rel) (s : List Int) (y i : Nat) : Bool := (s.take i).any fun x => R x.toNat y
theorem hitT_succ {R : Rel} {s : List Int} {y i : Nat} (h : i < s.length) : hitT R s y (i + 1) = (hitT R s y i || R (s.getD i 0).toNat y) := any_take (p := fun x => R x.toNat y) h
theorem hitT_full {R : Rel} {s : List Int} {y : Nat} : hitT R s y s.length = hitF R s y := by unfold hitT hitF; rw [List.take_length]
theorem hitT_zero {R : Rel} {s : List Int} {y : Nat} : hitT R s y 0 = false := rfl
theorem imL_bd {f : Nat → Bool} {y n : Nat} (h : y ≤ n) : (imL f y).length ≤ n := Nat.le_trans imL_len h

def k_spImage (f1 f2 : Nat) : RC := (.seq (.reg false [⟨none, .box 3 5 (.t 0)⟩, ⟨none, .box 4 3 (.t 1)⟩, ⟨none, .mv 6 (.c (.ls (some true) 1 []))⟩, ⟨none, .mv 7 (.c (.sc (.int .i64 0)))⟩]) ((.seq ((.seq (.reg false [⟨none, .mv 14 (.t 2)⟩, ⟨none, .call (some 15) f1 [(.t 3), (.t 4), (.t 14)]⟩, ⟨none, .mv 8 (.t 15)⟩]) ((.seq (.reg false [⟨none, .mv 16 (.t 8)⟩, ⟨none, .bin 17 .neq (.t 16) (.c (.sc (.int .i64 0)))⟩]) (.cond (.t 17) ((.seq (.reg false [⟨none, .bs 18 1 (.sc (.int .i64 0)) 0 []⟩, ⟨none, .mv 19 (.t 8)⟩, ⟨none, .mv 6 (.t 18)⟩, ⟨none, .mv 7 (.t 19)⟩]) (.ret))) (.skip)))))) ((.seq (.reg false [⟨none, .call (some 20) f2 [(.t 3), (.t 4)]⟩, ⟨none, .mv 9 (.t 20)⟩]) ((.seq (.reg false [⟨none, .bs 21 1 (.sc (.int .i64 0)) 0 []⟩, ⟨none, .mv 10 (.t 21)⟩]) ((.seq ((.seq (.reg false [⟨none, .mv 11 (.c (.sc (.int .i64 0)))⟩]) (.blk 0 (.loop ((.seq ((.seq (.reg false [⟨none, .mv 22 (.t 11)⟩, ⟨none, .fa 23 2 (.t 3)⟩, ⟨none, .ld 24 false 1 (.t 23)⟩, ⟨none, .bin 25 .lss (.t 22) (.t 24)⟩]) (.cond (.t 25) (.skip) (.exit 0)))) ((.seq (.blk 1 ((.seq (.reg false [⟨none, .mv 12 (.c (.sc (.bool false)))⟩]) ((.seq ((.seq (.reg false [⟨none, .mv 13 (.c (.sc (.int .i64 0)))⟩]) (.blk 2 (.loop ((.seq ((.seq (.reg false [⟨none, .mv 28 (.t 13)⟩, ⟨none, .mv 29 (.t 2)⟩, ⟨none, .len 30 (.t 29)⟩, ⟨none, .bin 31 .lss (.t 28) (.t 30)⟩]) (.cond (.t 31) (.skip) (.exit 2)))) ((.seq (.blk 3 (.reg false [⟨none, .mv 34 (.t 12)⟩, ⟨none, .mv 35 (.t 34)⟩, ⟨some (35, false), .mv 36 (.t 9)⟩, ⟨some (35, false), .mv 37 (.t 2)⟩, ⟨some (35, false), .mv 38 (.t 13)⟩, ⟨some (35, false), .ia 39 1 (.t 37) (.t 38)⟩, ⟨some (35, false), .ld 40 false 1 (.t 39)⟩, ⟨some (35, false), .ia 41 1 (.t 36) (.t 40)⟩, ⟨some (35, false), .ld 42 false 1 (.t 41)⟩, ⟨some (35, false), .mv 43 (.t 11)⟩, ⟨some (35, false), .ia 44 1 (.t 42) (.t 43)⟩, ⟨some (35, false), .ld 45 false 1 (.t 44)⟩, ⟨none, .pick 46 (.t 35) (.c (.sc (.bool true))) (.t 45)⟩, ⟨none, .mv 12 (.t 46)⟩])) (.reg false [⟨none, .mv 32 (.t 13)⟩, ⟨none, .bin 33 .add (.t 32) (.c (.sc (.int .i64 1)))⟩, ⟨none, .mv 13 (.t 33)⟩]))))))))) ((.seq (.reg false [⟨none, .mv 47 (.t 12)⟩]) (.cond (.t 47) (.reg false [⟨none, .mv 48 (.t 10)⟩, ⟨none, .mv 49 (.t 11)⟩, ⟨none, .bs 50 1 (.sc (.int .i64 0)) 1 [(0, (.t 49))]⟩, ⟨none, .app 51 1 8 (.t 48) (.t 50)⟩, ⟨none, .mv 10 (.t 51)⟩]) (.skip))))))))) (.reg false [⟨none, .mv 26 (.t 11)⟩, ⟨none, .bin 27 .add (.t 26) (.c (.sc (.int .i64 1)))⟩, ⟨none, .mv 11 (.t 27)⟩]))))))))) ((.seq (.reg false [⟨none, .mv 52 (.t 10)⟩, ⟨none, .mv 6 (.t 52)⟩, ⟨none, .mv 7 (.c (.sc (.int .i64 0)))⟩]) (.ret))))))))))))
def K_spImage (P : Program) (fno : Nat) : Prop := ∀ (m : Mo) (e : Ex) (s : SL Int), AF P fno [eM m, eE e, eS 1 eI s] (.tup ([.own (eS 1 eI (imgS (some false) m e s.2).1), .own (eI (imgS (some false) m e s.2).2)]))
theorem a_spImage {P : Program} (hm : P.follows .mixedOrders = true) {g f1 f2 : Nat} (hr : resF P g = some (53, k_spImage f1 f2, [.t 6, .t 7])) (hc1 : K_l05Asked P f1) (hc2 : K_l05Rel P f2) : K_spImage P g := by
 intro m e s
 unfold imgS
 obtain ⟨k, v, nn, ks, rfl⟩ := Ex.ex e
 obtain ⟨gs, p, T, A⟩ := m
 rw [eE_mk]
 refine af_of_res hr hm rfl fun hb => ?_
 have hask := hc1 (gs, p, T, A) (.mk k v nn ks) s
 rw [eE_mk] at hask
 simp +contextual -implicitDefEqProofs only [k_spImage, eM, eS, eI, D.size, D.sizeL, List.map_nil, List.map_cons, bne, Bool.not_false, Bool.and_true, go_sem, ↓reduceIte, Nat.reduceEqDiff, Nat.reduceAdd, Nat.reduceBEq, Nat.reduceLT]
 refine callQ_self (ds := [.pt (eM (gs, p, T, A)) 0, .pt (.ag [.sc (.int .i64 k), .sc (.int .i64 v), .ls nn 3 (ks.map eE)]) 0, eS 1 eI s]) (by rfl) hask ?_
 rcases askR_cases (m := (gs, p, T, A)) (e := (.mk k v nn ks)) (s := s.2) with h | h | ⟨h, ho, hq, hs⟩
 ·rw [h, setS_no h (by decide)]
  simp +contextual -implicitDefEqProofs only [eI, Int.reduceBEq, beq_self_eq_true, List.map_nil, List.length_nil, bne, Bool.not_false, Bool.and_true, go_sem, ↓reduceIte, Nat.reduceEqDiff, Nat.reduceBEq, Nat.reduceLT]
 ·rw [h, setS_no h (by decide)]
  simp +contextual -implicitDefEqProofs only [eI, Int.reduceBEq, beq_self_eq_true, List.map_nil, List.length_nil, bne, Bool.not_false, Bool.and_true, go_sem, ↓reduceIte, Nat.reduceEqDiff, Nat.reduceBEq, Nat.reduceLT]
 obtain ⟨n, hM⟩ := okMo_ok ho
 obtain rfl : p = n := hM.pts
 have n8 := hM.n8
 rw [h, setS_ok hM h]
 have hrel := hc2 (gs, (n : Int), T, A) n (.mk k v nn ks) hM (okE_tree hq)
 rw [eE_mk] at hrel
 have hsl := fun i hi => set_in hM hs (i := i) hi
 simp +contextual -implicitDefEqProofs only [eI, beq_self_eq_true, List.map_nil, List.map_cons, bne, Bool.not_true, go_sem, ↓reduceIte, Nat.reduceEqDiff]
 refine callQ_self (ds := [.pt (eM (gs, (n : Int), T, A)) 0, .pt (.ag [.sc (.int .i64 k), .sc (.int .i64 v), .ls nn 3 (ks.map eE)]) 0]) (by rfl) hrel ?_
 generalize relE (gs, (n : Int), T, A) (.mk k v nn ks) = R
 simp +contextual -implicitDefEqProofs only [List.map_nil, bne, Bool.not_false, Bool.and_true, go_sem, ↓reduceIte, Nat.reduceBEq, Nat.reduceLT]
 refine vc_onU (α := Nat) [10, 11, 12, 13, 21, 22, 23, 24, 25, 26, 27, 28, 29, 30, 31, 32, 33, 34, 35, 36, 37, 38, 39, 40, 41, 42, 43, 44, 45, 46, 47, 48, 49, 50, 51] (fun y => [(11, .im none (.sc (.int .i64 y))), (10, .sm 21 0 (imL (fun y => hitF R s.2 y) y).length)]) (fun y => [(21, .ar true (some false) 1 (iD (imL (fun y => hitF R s.2 y) y))), (20, .own (.ls (some false) 1 (rD n R))), (4, .ar false (some false) 3 [.ag [.sc (.int .i64 k), .sc (.int .i64 v), .ls nn 3 (ks.map eE)]]), (3, .ar false (some false) 5 [.ag [.sc (.int .i64 gs.1), .sc (.int .i64 gs.2), .sc (.int .i64 n), .ls T.1 1 (T.2.map (eS 1 eB)), .ls A.1 1 (A.2.map (eS 1 (eS 1 eB)))]])]) (fun y => y ≤ n) (fun y => n - y) 0 (Ent.to [] (by simp only [go_sem]; rfl) rfl (by simp [imL_zero, iD_nil]) (by rfl) (by simp only [subEnv, go_sem, ↓reduceIte, Nat.reduceEqDiff, keep, memN] <;> simp [imL_zero])) (Nat.zero_le _) ?_
 intro y hy0
 by_cases hy : y < n
 ·have hbd := imL_bd (f := (fun y => hitF R s.2 y)) hy0
  simp +contextual -implicitDefEqProofs only [hy, at0, D.sub, D.isAg, go_sem, ↓reduceIte, Nat.reduceEqDiff, Nat.reduceAdd, Nat.reduceLeDiff, Nat.reduceLT, Int.ofNat_lt]
  refine vc_onU (α := Nat) [12, 13, 28, 29, 30, 31, 32, 33, 34, 35, 36, 37, 38, 39, 40, 41, 42, 43, 44, 45, 46] (fun i => [(13, .im none (.sc (.int .i64 i))), (12, .im none (.sc (.bool (hitT R s.2 y i))))]) (fun i => [(21, .ar true (some false) 1 (iD (imL (fun y => hitF R s.2 y) y))), (20, .own (.ls (some false) 1 (rD n R))), (4, .ar false (some false) 3 [.ag [.sc (.int .i64 k), .sc (.int .i64 v), .ls nn 3 (ks.map eE)]]), (3, .ar false (some false) 5 [.ag [.sc (.int .i64 gs.1), .sc (.int .i64 gs.2), .sc (.int .i64 n), .ls T.1 1 (T.2.map (eS 1 eB)), .ls A.1 1 (A.2.map (eS 1 (eS 1 eB)))]])]) (fun i => i ≤ s.2.length) (fun i => s.2.length - i) 0 (Ent.to [] (by simp only [go_sem]; rfl) rfl (by simp) (by rfl) (by simp only [subEnv, go_sem, ↓reduceIte, Nat.reduceEqDiff, keep, memN] <;> simp [hitT_zero])) (Nat.zero_le _) ?_
  intro i hi0
  have hl := bd_ls hb.2.2.1
  simp only [List.length_map] at hl
  by_cases hi : i < s.2.length
  ·have hst := hitT_succ (R := R) (y := y) hi
   obtain ⟨hx0, hx1, hx2⟩ := hsl i hi
   have e1 := at_mapD (f := eI) (d := 0) hi
   have b1 := rD_at (R := R) hx1
   have b2 := rRow_at (f := R (s.2.getD i 0).toNat) hy
   cases hv : hitT R s.2 y i
   ·rw [hv, Bool.false_or] at hst
    simp +contextual -implicitDefEqProofs only [hi, hy, e1, b1, b2, hx0, hx2, rD_len, rRow_len, Int.toNat_natCast, eI, D.size, D.sub, D.isAg, go_sem, ↓reduceIte, Nat.reduceEqDiff, Nat.reduceLeDiff, Nat.reduceLT, Int.ofNat_lt, List.length_map, Int.natCast_nonneg]
    rw [wrap_i64 (by omega) (by omega), ← hst]
    exact ⟨i + 1, by omega, by omega, Ent.trans (Ent.unt 12 (by rfl)) (Ent.to [] (by simp only [go_sem]; rfl) rfl (by simp) (by rfl) (by simp only [subEnv, go_sem, ↓reduceIte, Nat.reduceEqDiff] <;> simp))⟩
   ·rw [hv, Bool.true_or] at hst
    simp +contextual -implicitDefEqProofs only [hi, go_sem, ↓reduceIte, Nat.reduceEqDiff, Int.ofNat_lt, List.length_map]
    rw [wrap_i64 (by omega) (by omega)]
    exact ⟨i + 1, by omega, by omega, Ent.to [] (by simp only [go_sem]; rfl) rfl (by simp []) (by rfl) (by simp only [subEnv, go_sem, ↓reduceIte, Nat.reduceEqDiff] <;> simp [hst])⟩
  ·obtain rfl : i = s.2.length := by omega
   rw [hitT_full]
   cases hF : (fun y => hitF R s.2 y) y
   ·have hF' : hitF R s.2 y = false := hF
    simp +contextual -implicitDefEqProofs only [hi, hF', go_sem, ↓reduceIte, Nat.reduceEqDiff, Int.ofNat_lt, List.length_map]
    rw [wrap_i64 (by omega) (by omega)]
    exact ⟨y + 1, by omega, by omega, Ent.to [] (by simp only [go_sem]; rfl) rfl (by simp [imL_f hF]) (by rfl) (by simp only [subEnv, go_sem, ↓reduceIte, Nat.reduceEqDiff] <;> simp [imL_f hF])⟩
   ·have hF' : hitF R s.2 y = true := hF
    simp +contextual -implicitDefEqProofs only [hi, hF', iD_len, D.size, beq_self_eq_true, List.map_nil, List.map_cons, List.length_cons, List.length_nil, bne, Bool.not_false, Bool.and_true, Bool.or_true, go_sem, ↓reduceIte, Nat.reduceEqDiff, Nat.reduceLeDiff, Nat.reduceMul, Nat.reduceBEq, Nat.reduceLT, Int.ofNat_lt, List.length_map]
    refine ⟨rfl, ⟨by (try simp); omega, by unfold maxEl; (try simp); omega, by simp [D.size]⟩, y + 1, by omega, by omega, ?_⟩
    rw [wrap_i64 (by omega) (by omega)]
    exact Ent.to [] (by simp only [go_sem]; rfl) rfl (by simp [imL_t hF, iD_app]) (by rfl) (by simp only [subEnv, go_sem, ↓reduceIte, Nat.reduceEqDiff] <;> simp [imL_t hF])
 ·obtain rfl : y = n := by omega
  simp +contextual -implicitDefEqProofs only [hy, iD_len, at0, D.sub, beq_self_eq_true, D.isAg, go_sem, ↓reduceIte, Nat.reduceEqDiff, Nat.reduceAdd, Nat.reduceLeDiff, Nat.reduceBEq, Nat.reduceLT, Int.ofNat_lt]
  exact D.Le.refl _

def k_spSafe (f1 f2 f3 : Nat) : RC := (.seq (.reg false [⟨none, .box 3 5 (.t 0)⟩, ⟨none, .box 4 3 (.t 1)⟩, ⟨none, .mv 6 (.c (.ls (some true) 1 []))⟩, ⟨none, .mv 7 (.c (.sc (.int .i64 0)))⟩]) ((.seq ((.seq (.reg false [⟨none, .mv 14 (.t 2)⟩, ⟨none, .call (some 15) f1 [(.t 3), (.t 4), (.t 14)]⟩, ⟨none, .mv 8 (.t 15)⟩]) ((.seq (.reg false [⟨none, .mv 16 (.t 8)⟩, ⟨none, .bin 17 .neq (.t 16) (.c (.sc (.int .i64 0)))⟩]) (.cond (.t 17) ((.seq (.reg false [⟨none, .bs 18 1 (.sc (.int .i64 0)) 0 []⟩, ⟨none, .mv 19 (.t 8)⟩, ⟨none, .mv 6 (.t 18)⟩, ⟨none, .mv 7 (.t 19)⟩]) (.ret))) (.skip)))))) ((.seq (.reg false [⟨none, .call (some 20) f2 [(.t 3), (.t 4)]⟩, ⟨none, .mv 9 (.t 20)⟩]) ((.seq (.reg false [⟨none, .bs 21 1 (.sc (.int .i64 0)) 0 []⟩, ⟨none, .mv 10 (.t 21)⟩]) ((.seq ((.seq (.reg false [⟨none, .mv 11 (.c (.sc (.int .i64 0)))⟩]) (.blk 0 (.loop ((.seq ((.seq (.reg false [⟨none, .mv 22 (.t 11)⟩, ⟨none, .fa 23 2 (.t 3)⟩, ⟨none, .ld 24 false 1 (.t 23)⟩, ⟨none, .bin 25 .lss (.t 22) (.t 24)⟩]) (.cond (.t 25) (.skip) (.exit 0)))) ((.seq (.blk 1 ((.seq (.reg false [⟨none, .mv 12 (.c (.sc (.bool true)))⟩]) ((.seq ((.seq (.reg false [⟨none, .mv 13 (.c (.sc (.int .i64 0)))⟩]) (.blk 2 (.loop ((.seq ((.seq (.reg false [⟨none, .mv 28 (.t 13)⟩, ⟨none, .fa 29 2 (.t 3)⟩, ⟨none, .ld 30 false 1 (.t 29)⟩, ⟨none, .bin 31 .lss (.t 28) (.t 30)⟩]) (.cond (.t 31) (.skip) (.exit 2)))) ((.seq (.blk 3 (.reg false [⟨none, .mv 34 (.t 12)⟩, ⟨none, .mv 35 (.t 34)⟩, ⟨some (35, true), .mv 36 (.t 9)⟩, ⟨some (35, true), .mv 37 (.t 11)⟩, ⟨some (35, true), .ia 38 1 (.t 36) (.t 37)⟩, ⟨some (35, true), .ld 39 false 1 (.t 38)⟩, ⟨some (35, true), .mv 40 (.t 13)⟩, ⟨some (35, true), .ia 41 1 (.t 39) (.t 40)⟩, ⟨some (35, true), .ld 42 false 1 (.t 41)⟩, ⟨some (35, true), .un 43 .not (.t 42)⟩, ⟨some (35, true), .mv 44 (.t 43)⟩, ⟨some (44, false), .mv 45 (.t 2)⟩, ⟨some (44, false), .mv 46 (.t 13)⟩, ⟨some (44, false), .call (some 47) f3 [(.t 45), (.t 46)]⟩, ⟨some (35, true), .pick 48 (.t 44) (.c (.sc (.bool true))) (.t 47)⟩, ⟨none, .pick 49 (.t 35) (.t 48) (.c (.sc (.bool false)))⟩, ⟨none, .mv 12 (.t 49)⟩])) (.reg false [⟨none, .mv 32 (.t 13)⟩, ⟨none, .bin 33 .add (.t 32) (.c (.sc (.int .i64 1)))⟩, ⟨none, .mv 13 (.t 33)⟩]))))))))) ((.seq (.reg false [⟨none, .mv 50 (.t 12)⟩]) (.cond (.t 50) (.reg false [⟨none, .mv 51 (.t 10)⟩, ⟨none, .mv 52 (.t 11)⟩, ⟨none, .bs 53 1 (.sc (.int .i64 0)) 1 [(0, (.t 52))]⟩, ⟨none, .app 54 1 8 (.t 51) (.t 53)⟩, ⟨none, .mv 10 (.t 54)⟩]) (.skip))))))))) (.reg false [⟨none, .mv 26 (.t 11)⟩, ⟨none, .bin 27 .add (.t 26) (.c (.sc (.int .i64 1)))⟩, ⟨none, .mv 11 (.t 27)⟩]))))))))) ((.seq (.reg false [⟨none, .mv 55 (.t 10)⟩, ⟨none, .mv 6 (.t 55)⟩, ⟨none, .mv 7 (.c (.sc (.int .i64 0)))⟩]) (.ret))))))))))))
def K_spSafe (P : Program) (fno : Nat) : Prop := ∀ (m : Mo) (e : Ex) (s : SL Int), AF P fno [eM m, eE e, eS 1 eI s] (.tup ([.own (eS 1 eI (safS (some false) m e s.2).1), .own (eI (safS (some false) m e s.2).2)]))
theorem a_spSafe {P : Program} (hm : P.follows .mixedOrders = true) {g f1 f2 f3 : Nat} (hr : resF P g = some (56, k_spSafe f1 f2 f3, [.t 6, .t 7])) (hc1 : K_l05Asked P f1) (hc2 : K_l05Rel P f2) (hc3 : K_l05Has P f3) : K_spSafe P g := by
 intro m e s
 unfold safS
 obtain ⟨k, v, nn, ks, rfl⟩ := Ex.ex e
 obtain ⟨gs, p, T, A⟩ := m
 rw [eE_mk]
 refine af_of_res hr hm rfl fun hb => ?_
 have hask := hc1 (gs, p, T, A) (.mk k v nn ks) s
 rw [eE_mk] at hask
 simp +contextual -implicitDefEqProofs only [k_spSafe, eM, eS, eI, D.size, D.sizeL, List.map_nil, List.map_cons, bne, Bool.not_false, Bool.and_true, go_sem, ↓reduceIte, Nat.reduceEqDiff, Nat.reduceAdd, Nat.reduceBEq, Nat.reduceLT]
 refine callQ_self (ds := [.pt (eM (gs, p, T, A)) 0, .pt (.ag [.sc (.int .i64 k), .sc (.int .i64 v), .ls nn 3 (ks.map eE)]) 0, eS 1 eI s]) (by rfl) hask ?_
 rcases askR_cases (m := (gs, p, T, A)) (e := (.mk k v nn ks)) (s := s.2) with h | h | ⟨h, ho, hq, hs⟩
 ·rw [h, setS_no h (by decide)]
  simp +contextual -implicitDefEqProofs only [eI, Int.reduceBEq, beq_self_eq_true, List.map_nil, List.length_nil, bne, Bool.not_false, Bool.and_true, go_sem, ↓reduceIte, Nat.reduceEqDiff, Nat.reduceBEq, Nat.reduceLT]
 ·rw [h, setS_no h (by decide)]
  simp +contextual -implicitDefEqProofs only [eI, Int.reduceBEq, beq_self_eq_true, List.map_nil, List.length_nil, bne, Bool.not_false, Bool.and_true, go_sem, ↓reduceIte, Nat.reduceEqDiff, Nat.reduceBEq, Nat.reduceLT]
 obtain ⟨n, hM⟩ := okMo_ok ho
 obtain rfl : p = n := hM.pts
 have n8 := hM.n8
 rw [h, setS_ok hM h]
 have hrel := hc2 (gs, (n : Int), T, A) n (.mk k v nn ks) hM (okE_tree hq)
 rw [eE_mk] at hrel
 have hsl := fun i hi => set_in hM hs (i := i) hi
 simp +contextual -implicitDefEqProofs only [eI, beq_self_eq_true, List.map_nil, List.map_cons, bne, Bool.not_true, go_sem, ↓reduceIte, Nat.reduceEqDiff]
 refine callQ_self (ds := [.pt (eM (gs, (n : Int), T, A)) 0, .pt (.ag [.sc (.int .i64 k), .sc (.int .i64 v), .ls nn 3 (ks.map eE)]) 0]) (by rfl) hrel ?_
 generalize relE (gs, (n : Int), T, A) (.mk k v nn ks) = R
 simp +contextual -implicitDefEqProofs only [List.map_nil, bne, Bool.not_false, Bool.and_true, go_sem, ↓reduceIte, Nat.reduceBEq, Nat.reduceLT]
 refine vc_onU (α := Nat) [10, 11, 12, 13, 21, 22, 23, 24, 25, 26, 27, 28, 29, 30, 31, 32, 33, 34, 35, 36, 37, 38, 39, 40, 41, 42, 43, 44, 45, 46, 47, 48, 49, 50, 51, 52, 53, 54] (fun x => [(11, .im none (.sc (.int .i64 x))), (10, .sm 21 0 (imL (fun x => safF R s.2 n x) x).length)]) (fun x => [(21, .ar true (some false) 1 (iD (imL (fun x => safF R s.2 n x) x))), (20, .own (.ls (some false) 1 (rD n R))), (4, .ar false (some false) 3 [.ag [.sc (.int .i64 k), .sc (.int .i64 v), .ls nn 3 (ks.map eE)]]), (3, .ar false (some false) 5 [.ag [.sc (.int .i64 gs.1), .sc (.int .i64 gs.2), .sc (.int .i64 n), .ls T.1 1 (T.2.map (eS 1 eB)), .ls A.1 1 (A.2.map (eS 1 (eS 1 eB)))]])]) (fun x => x ≤ n) (fun x => n - x) 0 (Ent.to [] (by simp only [go_sem]; rfl) rfl (by simp [imL_zero, iD_nil]) (by rfl) (by simp only [subEnv, go_sem, ↓reduceIte, Nat.reduceEqDiff, keep, memN] <;> simp [imL_zero])) (Nat.zero_le _) ?_
 intro x hx0
 by_cases hx : x < n
 ·have hbd := imL_bd (f := (fun x => safF R s.2 n x)) hx0
  have b1 := rD_at (R := R) hx
  simp +contextual -implicitDefEqProofs only [hx, at0, D.sub, D.isAg, go_sem, ↓reduceIte, Nat.reduceEqDiff, Nat.reduceAdd, Nat.reduceLeDiff, Nat.reduceLT, Int.ofNat_lt]
  refine vc_onU (α := Nat) [12, 13, 28, 29, 30, 31, 32, 33, 34, 35, 36, 37, 38, 39, 40, 41, 42, 43, 44, 45, 46, 47, 48, 49] (fun y => [(13, .im none (.sc (.int .i64 y))), (12, .im none (.sc (.bool (safU R s.2 x y))))]) (fun y => [(21, .ar true (some false) 1 (iD (imL (fun x => safF R s.2 n x) x))), (20, .own (.ls (some false) 1 (rD n R))), (4, .ar false (some false) 3 [.ag [.sc (.int .i64 k), .sc (.int .i64 v), .ls nn 3 (ks.map eE)]]), (3, .ar false (some false) 5 [.ag [.sc (.int .i64 gs.1), .sc (.int .i64 gs.2), .sc (.int .i64 n), .ls T.1 1 (T.2.map (eS 1 eB)), .ls A.1 1 (A.2.map (eS 1 (eS 1 eB)))]])]) (fun y => y ≤ n) (fun y => n - y) 0 (Ent.to [] (by simp only [go_sem]; rfl) rfl (by simp) (by rfl) (by simp only [subEnv, go_sem, ↓reduceIte, Nat.reduceEqDiff, keep, memN] <;> simp [safU_zero])) (Nat.zero_le _) ?_
  intro y hy0
  by_cases hy : y < n
  ·have hst := safU_succ (R := R) (s := s.2) (x := x) (z := y)
   have b2 := rRow_at (f := R x) hy
   cases hv : safU R s.2 x y
   ·rw [hv, Bool.false_and] at hst
    simp +contextual -implicitDefEqProofs only [hy, at0, D.sub, D.isAg, go_sem, ↓reduceIte, Nat.reduceEqDiff, Nat.reduceAdd, Nat.reduceLeDiff, Nat.reduceLT, Int.ofNat_lt]
    rw [wrap_i64 (by omega) (by omega), ← hst]
    exact ⟨y + 1, by omega, by omega, Ent.to [] (by simp only [go_sem]; rfl) rfl (by simp) (by rfl) (by simp only [subEnv, go_sem, ↓reduceIte, Nat.reduceEqDiff] <;> simp)⟩
   rw [hv, Bool.true_and] at hst
   cases hr1 : R x y
   ·rw [hr1] at b2 hst
    simp only [Bool.not_false, Bool.true_or] at hst
    simp +contextual -implicitDefEqProofs only [hx, hy, b1, b2, rD_len, rRow_len, at0, D.size, D.sub, D.isAg, Bool.not_false, go_sem, ↓reduceIte, Nat.reduceEqDiff, Nat.reduceAdd, Nat.reduceLeDiff, Nat.reduceLT, Int.ofNat_lt, Int.natCast_nonneg]
    rw [wrap_i64 (by omega) (by omega), ← hst]
    exact ⟨y + 1, by omega, by omega, Ent.to [] (by simp only [go_sem]; rfl) rfl (by simp) (by rfl) (by simp only [subEnv, go_sem, ↓reduceIte, Nat.reduceEqDiff] <;> simp)⟩
   ·rw [hr1] at b2 hst
    simp only [Bool.not_true, Bool.false_or] at hst
    simp +contextual -implicitDefEqProofs only [hx, hy, b1, b2, rD_len, rRow_len, at0, D.size, D.sub, D.isAg, List.map_nil, List.map_cons, Bool.not_true, go_sem, ↓reduceIte, Nat.reduceEqDiff, Nat.reduceAdd, Nat.reduceLeDiff, Nat.reduceLT, Int.ofNat_lt, Int.natCast_nonneg]
    refine callQ_self (ds := [eS 1 eI s, eI y]) (by rfl) (hc3 s y) ?_
    simp +contextual -implicitDefEqProofs only [eB, go_sem, ↓reduceIte, Nat.reduceEqDiff]
    rw [wrap_i64 (by omega) (by omega), ← hst]
    exact ⟨y + 1, by omega, by omega, Ent.to [] (by simp only [go_sem]; rfl) rfl (by simp) (by rfl) (by simp only [subEnv, go_sem, ↓reduceIte, Nat.reduceEqDiff] <;> simp)⟩
  ·obtain rfl : n = y := by omega
   cases hF : (fun x => safF R s.2 n x) x
   ·have hF' : safU R s.2 x n = false := hF
    simp +contextual -implicitDefEqProofs only [hy, hF', at0, D.sub, D.isAg, go_sem, ↓reduceIte, Nat.reduceEqDiff, Nat.reduceAdd, Nat.reduceLeDiff, Nat.reduceLT, Int.ofNat_lt]
    rw [wrap_i64 (by omega) (by omega)]
    exact ⟨x + 1, by omega, by omega, Ent.to [] (by simp only [go_sem]; rfl) rfl (by simp [imL_f hF]) (by rfl) (by simp only [subEnv, go_sem, ↓reduceIte, Nat.reduceEqDiff] <;> simp [imL_f hF])⟩
   ·have hF' : safU R s.2 x n = true := hF
    simp +contextual -implicitDefEqProofs only [hy, hF', iD_len, at0, D.size, D.sub, beq_self_eq_true, D.isAg, List.map_nil, List.map_cons, List.length_cons, List.length_nil, bne, Bool.not_false, Bool.and_true, Bool.or_true, go_sem, ↓reduceIte, Nat.reduceEqDiff, Nat.reduceAdd, Nat.reduceLeDiff, Nat.reduceMul, Nat.reduceBEq, Nat.reduceLT, Int.ofNat_lt]
    refine ⟨rfl, ⟨by (try simp); omega, by unfold maxEl; (try simp); omega, by simp [D.size]⟩, x + 1, by omega, by omega, ?_⟩
    rw [wrap_i64 (by omega) (by omega)]
    exact Ent.to [] (by simp only [go_sem]; rfl) rfl (by simp [imL_t hF, iD_app]) (by rfl) (by simp only [subEnv, go_sem, ↓reduceIte, Nat.reduceEqDiff] <;> simp [imL_t hF])
 ·obtain rfl : x = n := by omega
  simp +contextual -implicitDefEqProofs only [hx, iD_len, at0, D.sub, beq_self_eq_true, D.isAg, go_sem, ↓reduceIte, Nat.reduceEqDiff, Nat.reduceAdd, Nat.reduceLeDiff, Nat.reduceBEq, Nat.reduceLT, Int.ofNat_lt]
  exact D.Le.refl _

def k_imageOf1 : RC := (.seq (.reg false [⟨none, .mv 4 (.c (.sc (.bool false)))⟩]) ((.seq (.reg true [⟨none, .ld 5 false 1 (.t 1)⟩, ⟨none, .mv 6 (.t 0)⟩, ⟨none, .ia 7 1 (.t 5) (.t 6)⟩, ⟨none, .ld 8 false 1 (.t 7)⟩, ⟨none, .ld 9 false 1 (.t 2)⟩, ⟨none, .ia 10 1 (.t 8) (.t 9)⟩, ⟨none, .ld 11 false 1 (.t 10)⟩, ⟨none, .mv 4 (.t 11)⟩]) (.ret))))
def K_imageOf1 (P : Program) (fno : Nat) : Prop := ∀ (n : Nat) (R : Rel) (x : Int) (y : Nat) (hx0 : 0 ≤ x) (hx1 : x.toNat < n) (hy : y < n), AF P fno [eI x, .pt (.ls (some false) 1 (rD n R)) 0, .pt (eI y) 0] (.own (eB (R x.toNat y)))
theorem a_imageOf1 {P : Program} (hm : P.follows .mixedOrders = true) {g : Nat} (hr : resF P g = some (12, k_imageOf1, [.t 4])) : K_imageOf1 P g := by
 intro n R x y hx0 hx1 hy
 have b1 := rD_at (R := R) hx1
 have b2 := rRow_at (f := R x.toNat) hy
 have hx2 : x < (n : Int) := by omega
 refine af_of_res hr hm rfl fun hb => ?_
 simp +contextual -implicitDefEqProofs only [k_imageOf1, b1, b2, hx0, hx2, hy, rD_len, rRow_len, Int.toNat_natCast, eI, eB, D.size, D.sub, D.isAg, go_sem, ↓reduceIte, Nat.reduceEqDiff, Nat.reduceAdd, Nat.reduceLeDiff, Nat.reduceLT, Int.ofNat_lt, Int.natCast_nonneg]

def k_imImage (f1 f2 f3 f4 f5 f6 : Nat) : RC := (.seq (.reg false [⟨none, .box 3 5 (.t 0)⟩, ⟨none, .box 4 3 (.t 1)⟩, ⟨none, .mv 6 (.c (.ls (some true) 1 []))⟩, ⟨none, .mv 7 (.c (.sc (.int .i64 0)))⟩]) ((.seq ((.seq (.reg false [⟨none, .ld 11 true 5 (.t 3)⟩, ⟨none, .call (some 12) f1 [(.t 11)]⟩, ⟨none, .un 13 .not (.t 12)⟩, ⟨none, .mv 14 (.t 13)⟩, ⟨some (14, false), .fa 15 0 (.t 3)⟩, ⟨some (14, false), .ld 16 true 2 (.t 15)⟩, ⟨some (14, false), .ld 17 true 3 (.t 4)⟩, ⟨some (14, false), .call (some 18) f2 [(.t 16), (.t 17)]⟩, ⟨some (14, false), .un 19 .not (.t 18)⟩, ⟨none, .pick 20 (.t 14) (.c (.sc (.bool true))) (.t 19)⟩]) (.cond (.t 20) ((.seq (.reg false [⟨none, .mv 6 (.c (.ls (some true) 1 []))⟩, ⟨none, .mv 7 (.c (.sc (.int .i64 1)))⟩]) (.ret))) (.skip)))) ((.seq ((.seq (.reg false [⟨none, .ld 21 true 5 (.t 3)⟩, ⟨none, .mv 22 (.t 2)⟩, ⟨none, .call (some 23) f3 [(.t 21), (.t 22)]⟩, ⟨none, .un 24 .not (.t 23)⟩]) (.cond (.t 24) ((.seq (.reg false [⟨none, .mv 6 (.c (.ls (some true) 1 []))⟩, ⟨none, .mv 7 (.c (.sc (.int .i64 2)))⟩]) (.ret))) (.skip)))) ((.seq (.reg false [⟨none, .ld 25 true 5 (.t 3)⟩, ⟨none, .ld 26 true 3 (.t 4)⟩, ⟨none, .call (some 27) f4 [(.t 25), (.t 26)]⟩, ⟨none, .zer 8 1 (.ls (some true) 1 [])⟩, ⟨none, .st 1 (.t 8) (.t 27)⟩]) ((.seq (.reg false [⟨none, .bs 28 1 (.sc (.int .i64 0)) 0 []⟩, ⟨none, .mv 9 (.t 28)⟩]) ((.seq ((.seq (.reg false [⟨none, .fa 29 2 (.t 3)⟩, ⟨none, .ld 30 false 1 (.t 29)⟩, ⟨none, .mv 31 (.c (.sc (.int .i64 0)))⟩]) (.blk 0 (.loop ((.seq (.reg false [⟨none, .bin 32 .lss (.t 31) (.t 30)⟩]) ((.seq (.cond (.t 32) (.skip) (.exit 0)) ((.seq (.blk 1 ((.seq (.reg false [⟨none, .mv 33 (.t 31)⟩, ⟨none, .zer 10 1 (.sc (.int .i64 0))⟩, ⟨none, .st 1 (.t 10) (.t 33)⟩]) ((.seq (.reg false [⟨none, .mv 34 (.t 2)⟩, ⟨none, .mkf 35 f6 [(.t 8), (.t 10)]⟩, ⟨none, .call (some 36) f5 [(.t 34), (.t 35)]⟩]) (.cond (.t 36) (.reg false [⟨none, .mv 37 (.t 9)⟩, ⟨none, .ld 38 false 1 (.t 10)⟩, ⟨none, .bs 39 1 (.sc (.int .i64 0)) 1 [(0, (.t 38))]⟩, ⟨none, .app 40 1 8 (.t 37) (.t 39)⟩, ⟨none, .mv 9 (.t 40)⟩]) (.skip))))))) (.reg false [⟨none, .bin 41 .add (.t 31) (.c (.sc (.int .i64 1)))⟩, ⟨none, .mv 31 (.t 41)⟩]))))))))))) ((.seq (.reg false [⟨none, .mv 42 (.t 9)⟩, ⟨none, .mv 6 (.t 42)⟩, ⟨none, .mv 7 (.c (.sc (.int .i64 0)))⟩]) (.ret))))))))))))))
def K_imImage (P : Program) (fno : Nat) : Prop := ∀ (m : Mo) (e : Ex) (s : SL Int), AF P fno [eM m, eE e, eS 1 eI s] (.tup ([.own (eS 1 eI (imgS (some true) m e s.2).1), .own (eI (imgS (some true) m e s.2).2)]))
theorem a_imImage {P : Program} (hm : P.follows .mixedOrders = true) {g f1 f2 f3 f4 f5 f6 : Nat} (hr : resF P g = some (43, k_imImage f1 f2 f3 f4 f5 f6, [.t 6, .t 7])) (hc1 : K_validModel P f1) (hc2 : K_isExpr P f2) (hc3 : K_isSet P f3) (hc4 : K_relation P f4) (hc5 : K_containsFI P f5) (hc6 : K_imageOf1 P f6) : K_imImage P g := by
 intro m e s
 unfold imgS
 obtain ⟨k, v, nn, ks, rfl⟩ := Ex.ex e
 obtain ⟨gs, p, T, A⟩ := m
 rw [eE_mk]
 refine af_of_res hr hm rfl fun hb => ?_
 simp +contextual -implicitDefEqProofs only [k_imImage, eM, eS, eI, at0, D.size, D.sizeL, D.sub, D.isAg, List.map_nil, List.map_cons, bne, Bool.not_false, Bool.and_true, go_sem, ↓reduceIte, Nat.reduceEqDiff, Nat.reduceAdd, Nat.reduceLeDiff, Nat.reduceBEq, Nat.reduceLT]
 refine callQ_self (ds := [eM (gs, p, T, A)]) (by rfl) (hc1 (gs, p, T, A)) ?_
 cases ho : okMo (gs, p, T, A)
 ·rw [setS_no (k := 1) (by simp [askR, ho]) (by decide)]
  simp +contextual -implicitDefEqProofs only [eB, beq_self_eq_true, List.map_nil, Bool.not_false, Bool.and_true, go_sem, ↓reduceIte, Nat.reduceEqDiff]
 obtain ⟨n, hM⟩ := okMo_ok ho
 obtain rfl : p = n := hM.pts
 have n8 := hM.n8
 have hxe := hc2 gs (.mk k v nn ks)
 rw [eE_mk] at hxe
 simp +contextual -implicitDefEqProofs only [eB, at0, D.sub, D.isAg, List.map_nil, List.map_cons, Bool.not_true, go_sem, ↓reduceIte, Nat.reduceEqDiff, Nat.reduceLeDiff, Nat.reduceLT]
 refine callQ_self (ds := [eG gs, .ag [.sc (.int .i64 k), .sc (.int .i64 v), .ls nn 3 (ks.map eE)]]) (by rfl) hxe ?_
 cases hq : okE gs (.mk k v nn ks)
 ·rw [setS_no (k := 1) (by simp [askR, hq]) (by decide)]
  simp +contextual -implicitDefEqProofs only [eB, beq_self_eq_true, List.map_nil, Bool.not_false, Bool.and_true, go_sem, ↓reduceIte, Nat.reduceEqDiff]
 simp +contextual -implicitDefEqProofs only [eB, at0, D.sub, D.isAg, List.map_nil, List.map_cons, Bool.not_true, go_sem, ↓reduceIte, Nat.reduceEqDiff, Nat.reduceLeDiff]
 refine callQ_self (ds := [eM (gs, (n : Int), T, A), eS 1 eI s]) (by rfl) (hc3 (gs, (n : Int), T, A) s (by simp only; omega)) ?_
 cases hs : isSetB (n : Int) s.2
 ·rw [setS_no (k := 2) (by simp [askR, ho, hq, hs]) (by decide)]
  simp +contextual -implicitDefEqProofs only [eB, beq_self_eq_true, List.map_nil, Bool.not_false, Bool.and_true, go_sem, ↓reduceIte, Nat.reduceEqDiff]
 rw [setS_ok hM (show askR (gs, (n : Int), T, A) (.mk k v nn ks) s.2 = 0 by simp [askR, ho, hq, hs])]
 have hrel := hc4 (gs, (n : Int), T, A) n (.mk k v nn ks) hM (okE_tree hq)
 rw [eE_mk] at hrel
 have hsl := fun x hx => set_mem hM hs (x := x) hx
 simp +contextual -implicitDefEqProofs only [eB, at0, D.sub, D.isAg, List.map_nil, List.map_cons, Bool.not_true, go_sem, ↓reduceIte, Nat.reduceEqDiff, Nat.reduceLeDiff]
 refine callQ_self (ds := [eM (gs, (n : Int), T, A), .ag [.sc (.int .i64 k), .sc (.int .i64 v), .ls nn 3 (ks.map eE)]]) (by rfl) hrel ?_
 generalize relE (gs, (n : Int), T, A) (.mk k v nn ks) = R
 simp +contextual -implicitDefEqProofs only [at0, D.size, D.sub, beq_self_eq_true, D.isAg, List.map_nil, List.length_cons, List.length_nil, bne, Bool.not_false, Bool.false_and, Bool.and_true, D.put, go_sem, ↓reduceIte, Nat.reduceEqDiff, Nat.reduceAdd, Nat.reduceLeDiff, Nat.reduceBEq, Nat.reduceLT]
 refine vc_onU (α := Nat) [9, 10, 28, 31, 32, 33, 34, 36, 37, 38, 39, 40, 41] (fun y => [(31, .im none (.sc (.int .i64 y))), (9, .sm 28 0 (imL (fun y => hitF R s.2 y) y).length)]) (fun y => [(28, .ar true (some false) 1 (iD (imL (fun y => hitF R s.2 y) y))), (8, .ar true (some false) 1 [.ls (some false) 1 (rD n R)]), (4, .ar false (some false) 3 [.ag [.sc (.int .i64 k), .sc (.int .i64 v), .ls nn 3 (ks.map eE)]]), (3, .ar false (some false) 5 [.ag [.sc (.int .i64 gs.1), .sc (.int .i64 gs.2), .sc (.int .i64 n), .ls T.1 1 (T.2.map (eS 1 eB)), .ls A.1 1 (A.2.map (eS 1 (eS 1 eB)))]])]) (fun y => y ≤ n) (fun y => n - y) 0 (Ent.to [] (by simp only [go_sem]; rfl) rfl (by simp [imL_zero, iD_nil]) (by rfl) (by simp only [subEnv, go_sem, ↓reduceIte, Nat.reduceEqDiff, keep, memN] <;> simp [imL_zero])) (Nat.zero_le _) ?_
 intro y hy0
 by_cases hy : y < n
 ·have hbd := imL_bd (f := (fun y => hitF R s.2 y)) hy0
  simp +contextual -implicitDefEqProofs only [hy, at0, D.size, D.isAg, List.map_nil, List.map_cons, List.length_cons, List.length_nil, bne, Bool.not_false, Bool.and_true, D.put, go_sem, ↓reduceIte, Nat.reduceEqDiff, Nat.reduceLeDiff, Nat.reduceBEq, Nat.reduceLT, Int.ofNat_lt]
  refine callQ_self (ds := [eS 1 eI s, .fn f6 [.pt (.ls (some false) 1 (rD n R)) 0, .pt (eI y) 0]]) (by rfl) (hc5 s f6 _ (fun x => R x.toNat y) (fun x hx => hc6 n R x y (hsl x hx).1 (hsl x hx).2.1 hy)) ?_
  cases hF : (fun y => hitF R s.2 y) y
  ·have hF' : (s.2.any fun x => R x.toNat y) = false := hF
   simp +contextual -implicitDefEqProofs only [hF', eB, go_sem, ↓reduceIte, Nat.reduceEqDiff]
   rw [wrap_i64 (by omega) (by omega)]
   exact ⟨y + 1, by omega, by omega, Ent.to [10] (by simp only [go_sem, ↓reduceIte, Nat.reduceEqDiff, Nat.reduceBEq]; rfl) rfl (by simp [imL_f hF]) (by rfl) (by simp only [subEnv, go_sem, ↓reduceIte, Nat.reduceEqDiff] <;> simp [imL_f hF])⟩
  ·have hF' : (s.2.any fun x => R x.toNat y) = true := hF
   simp +contextual -implicitDefEqProofs only [hF', iD_len, eB, at0, D.size, D.sub, beq_self_eq_true, D.isAg, List.map_nil, List.map_cons, List.length_cons, List.length_nil, bne, Bool.not_false, Bool.and_true, Bool.or_true, Bool.or_false, go_sem, ↓reduceIte, Nat.reduceEqDiff, Nat.reduceLeDiff, Nat.reduceMul, Nat.reduceBEq, Nat.reduceLT]
   refine ⟨rfl, ⟨by (try simp); omega, by unfold maxEl; (try simp); omega, by simp [D.size]⟩, y + 1, by omega, by omega, ?_⟩
   rw [wrap_i64 (by omega) (by omega)]
   exact Ent.to [10] (by simp only [go_sem, ↓reduceIte, Nat.reduceEqDiff, Nat.reduceBEq]; rfl) rfl (by simp [imL_t hF, iD_app]) (by rfl) (by simp only [subEnv, go_sem, ↓reduceIte, Nat.reduceEqDiff] <;> simp [imL_t hF])
 ·obtain rfl : y = n := by omega
  simp +contextual -implicitDefEqProofs only [hy, iD_len, beq_self_eq_true, go_sem, ↓reduceIte, Nat.reduceEqDiff, Nat.reduceBEq, Int.ofNat_lt]
  exact D.Le.refl _

def k_imSafe (f1 f2 f3 f4 f5 : Nat) : RC := (.seq (.reg false [⟨none, .box 3 5 (.t 0)⟩, ⟨none, .box 4 3 (.t 1)⟩, ⟨none, .mv 6 (.c (.ls (some true) 1 []))⟩, ⟨none, .mv 7 (.c (.sc (.int .i64 0)))⟩]) ((.seq ((.seq (.reg false [⟨none, .ld 14 true 5 (.t 3)⟩, ⟨none, .call (some 15) f1 [(.t 14)]⟩, ⟨none, .un 16 .not (.t 15)⟩, ⟨none, .mv 17 (.t 16)⟩, ⟨some (17, false), .fa 18 0 (.t 3)⟩, ⟨some (17, false), .ld 19 true 2 (.t 18)⟩, ⟨some (17, false), .ld 20 true 3 (.t 4)⟩, ⟨some (17, false), .call (some 21) f2 [(.t 19), (.t 20)]⟩, ⟨some (17, false), .un 22 .not (.t 21)⟩, ⟨none, .pick 23 (.t 17) (.c (.sc (.bool true))) (.t 22)⟩]) (.cond (.t 23) ((.seq (.reg false [⟨none, .mv 6 (.c (.ls (some true) 1 []))⟩, ⟨none, .mv 7 (.c (.sc (.int .i64 1)))⟩]) (.ret))) (.skip)))) ((.seq ((.seq (.reg false [⟨none, .ld 24 true 5 (.t 3)⟩, ⟨none, .mv 25 (.t 2)⟩, ⟨none, .call (some 26) f3 [(.t 24), (.t 25)]⟩, ⟨none, .un 27 .not (.t 26)⟩]) (.cond (.t 27) ((.seq (.reg false [⟨none, .mv 6 (.c (.ls (some true) 1 []))⟩, ⟨none, .mv 7 (.c (.sc (.int .i64 2)))⟩]) (.ret))) (.skip)))) ((.seq (.reg false [⟨none, .bs 28 1 (.sc (.int .i64 0)) 0 []⟩, ⟨none, .mv 8 (.t 28)⟩]) ((.seq ((.seq (.reg false [⟨none, .ld 29 true 5 (.t 3)⟩, ⟨none, .ld 30 true 3 (.t 4)⟩, ⟨none, .call (some 31) f4 [(.t 29), (.t 30)]⟩, ⟨none, .len 32 (.t 31)⟩, ⟨none, .mv 33 (.c (.sc (.int .i64 0)))⟩]) (.blk 0 (.loop ((.seq (.reg false [⟨none, .bin 34 .lss (.t 33) (.t 32)⟩]) ((.seq (.cond (.t 34) (.skip) (.exit 0)) ((.seq (.blk 1 ((.seq (.reg false [⟨none, .mv 35 (.t 33)⟩, ⟨none, .ia 36 1 (.t 31) (.t 33)⟩, ⟨none, .ld 37 false 1 (.t 36)⟩, ⟨none, .mv 9 (.t 35)⟩, ⟨none, .mv 10 (.t 37)⟩]) ((.seq (.reg false [⟨none, .mv 11 (.c (.sc (.bool true)))⟩]) ((.seq ((.seq (.reg false [⟨none, .mv 38 (.t 10)⟩, ⟨none, .len 39 (.t 38)⟩, ⟨none, .mv 40 (.c (.sc (.int .i64 0)))⟩]) (.blk 2 (.loop ((.seq (.reg false [⟨none, .bin 41 .lss (.t 40) (.t 39)⟩]) ((.seq (.cond (.t 41) (.skip) (.exit 2)) ((.seq (.blk 3 ((.seq (.reg false [⟨none, .mv 42 (.t 40)⟩, ⟨none, .ia 43 1 (.t 38) (.t 40)⟩, ⟨none, .ld 44 false 1 (.t 43)⟩, ⟨none, .mv 12 (.t 42)⟩, ⟨none, .mv 13 (.t 44)⟩]) (.reg false [⟨none, .mv 45 (.t 11)⟩, ⟨none, .mv 46 (.t 45)⟩, ⟨some (46, true), .mv 47 (.t 13)⟩, ⟨some (46, true), .un 48 .not (.t 47)⟩, ⟨some (46, true), .mv 49 (.t 48)⟩, ⟨some (49, false), .mv 50 (.t 2)⟩, ⟨some (49, false), .mv 51 (.t 12)⟩, ⟨some (49, false), .call (some 52) f5 [(.t 50), (.t 51)]⟩, ⟨some (46, true), .pick 53 (.t 49) (.c (.sc (.bool true))) (.t 52)⟩, ⟨none, .pick 54 (.t 46) (.t 53) (.c (.sc (.bool false)))⟩, ⟨none, .mv 11 (.t 54)⟩])))) (.reg false [⟨none, .bin 55 .add (.t 40) (.c (.sc (.int .i64 1)))⟩, ⟨none, .mv 40 (.t 55)⟩]))))))))))) ((.seq (.reg false [⟨none, .mv 56 (.t 11)⟩]) (.cond (.t 56) (.reg false [⟨none, .mv 57 (.t 8)⟩, ⟨none, .mv 58 (.t 9)⟩, ⟨none, .bs 59 1 (.sc (.int .i64 0)) 1 [(0, (.t 58))]⟩, ⟨none, .app 60 1 8 (.t 57) (.t 59)⟩, ⟨none, .mv 8 (.t 60)⟩]) (.skip))))))))))) (.reg false [⟨none, .bin 61 .add (.t 33) (.c (.sc (.int .i64 1)))⟩, ⟨none, .mv 33 (.t 61)⟩]))))))))))) ((.seq (.reg false [⟨none, .mv 62 (.t 8)⟩, ⟨none, .mv 6 (.t 62)⟩, ⟨none, .mv 7 (.c (.sc (.int .i64 0)))⟩]) (.ret))))))))))))
def K_imSafe (P : Program) (fno : Nat) : Prop := ∀ (m : Mo) (e : Ex) (s : SL Int), AF P fno [eM m, eE e, eS 1 eI s] (.tup ([.own (eS 1 eI (safS (some true) m e s.2).1), .own (eI (safS (some true) m e s.2).2)]))
theorem a_imSafe {P : Program} (hm : P.follows .mixedOrders = true) {g f1 f2 f3 f4 f5 : Nat} (hr : resF P g = some (63, k_imSafe f1 f2 f3 f4 f5, [.t 6, .t 7])) (hc1 : K_validModel P f1) (hc2 : K_isExpr P f2) (hc3 : K_isSet P f3) (hc4 : K_relation P f4) (hc5 : K_containsI P f5) : K_imSafe P g := by
 intro m e s
 unfold safS
 obtain ⟨k, v, nn, ks, rfl⟩ := Ex.ex e
 obtain ⟨gs, p, T, A⟩ := m
 rw [eE_mk]
 refine af_of_res hr hm rfl fun hb => ?_
 simp +contextual -implicitDefEqProofs only [k_imSafe, eM, eS, eI, at0, D.size, D.sizeL, D.sub, D.isAg, List.map_nil, List.map_cons, bne, Bool.not_false, Bool.and_true, go_sem, ↓reduceIte, Nat.reduceEqDiff, Nat.reduceAdd, Nat.reduceLeDiff, Nat.reduceBEq, Nat.reduceLT]
 refine callQ_self (ds := [eM (gs, p, T, A)]) (by rfl) (hc1 (gs, p, T, A)) ?_
 cases ho : okMo (gs, p, T, A)
 ·rw [setS_no (k := 1) (by simp [askR, ho]) (by decide)]
  simp +contextual -implicitDefEqProofs only [eB, beq_self_eq_true, List.map_nil, Bool.not_false, Bool.and_true, go_sem, ↓reduceIte, Nat.reduceEqDiff]
 obtain ⟨n, hM⟩ := okMo_ok ho
 obtain rfl : p = n := hM.pts
 have n8 := hM.n8
 have hxe := hc2 gs (.mk k v nn ks)
 rw [eE_mk] at hxe
 simp +contextual -implicitDefEqProofs only [eB, at0, D.sub, D.isAg, List.map_nil, List.map_cons, Bool.not_true, go_sem, ↓reduceIte, Nat.reduceEqDiff, Nat.reduceLeDiff, Nat.reduceLT]
 refine callQ_self (ds := [eG gs, .ag [.sc (.int .i64 k), .sc (.int .i64 v), .ls nn 3 (ks.map eE)]]) (by rfl) hxe ?_
 cases hq : okE gs (.mk k v nn ks)
 ·rw [setS_no (k := 1) (by simp [askR, hq]) (by decide)]
  simp +contextual -implicitDefEqProofs only [eB, beq_self_eq_true, List.map_nil, Bool.not_false, Bool.and_true, go_sem, ↓reduceIte, Nat.reduceEqDiff]
 simp +contextual -implicitDefEqProofs only [eB, at0, D.sub, D.isAg, List.map_nil, List.map_cons, Bool.not_true, go_sem, ↓reduceIte, Nat.reduceEqDiff, Nat.reduceLeDiff]
 refine callQ_self (ds := [eM (gs, (n : Int), T, A), eS 1 eI s]) (by rfl) (hc3 (gs, (n : Int), T, A) s (by simp only; omega)) ?_
 cases hs : isSetB (n : Int) s.2
 ·rw [setS_no (k := 2) (by simp [askR, ho, hq, hs]) (by decide)]
  simp +contextual -implicitDefEqProofs only [eB, beq_self_eq_true, List.map_nil, Bool.not_false, Bool.and_true, go_sem, ↓reduceIte, Nat.reduceEqDiff]
 rw [setS_ok hM (show askR (gs, (n : Int), T, A) (.mk k v nn ks) s.2 = 0 by simp [askR, ho, hq, hs])]
 have hrel := hc4 (gs, (n : Int), T, A) n (.mk k v nn ks) hM (okE_tree hq)
 rw [eE_mk] at hrel
 have hsl := fun x hx => set_mem hM hs (x := x) hx
 simp +contextual -implicitDefEqProofs only [eB, at0, D.sub, D.isAg, List.map_nil, List.map_cons, bne, Bool.not_true, Bool.not_false, Bool.and_true, go_sem, ↓reduceIte, Nat.reduceEqDiff, Nat.reduceLeDiff, Nat.reduceBEq, Nat.reduceLT]
 refine callQ_self (ds := [eM (gs, (n : Int), T, A), .ag [.sc (.int .i64 k), .sc (.int .i64 v), .ls nn 3 (ks.map eE)]]) (by rfl) hrel ?_
 generalize relE (gs, (n : Int), T, A) (.mk k v nn ks) = R
 simp +contextual -implicitDefEqProofs only [bne, Bool.not_false, Bool.and_true, go_sem, ↓reduceIte, Nat.reduceBEq]
 refine vc_onU (α := Nat) [8, 9, 10, 11, 12, 13, 28, 33, 34, 35, 36, 37, 38, 39, 40, 41, 42, 43, 44, 45, 46, 47, 48, 49, 50, 51, 52, 53, 54, 55, 56, 57, 58, 59, 60, 61] (fun x => [(33, .im none (.sc (.int .i64 x))), (8, .sm 28 0 (imL (fun x => safF R s.2 n x) x).length)]) (fun x => [(28, .ar true (some false) 1 (iD (imL (fun x => safF R s.2 n x) x))), (31, .own (.ls (some false) 1 (rD n R))), (4, .ar false (some false) 3 [.ag [.sc (.int .i64 k), .sc (.int .i64 v), .ls nn 3 (ks.map eE)]]), (3, .ar false (some false) 5 [.ag [.sc (.int .i64 gs.1), .sc (.int .i64 gs.2), .sc (.int .i64 n), .ls T.1 1 (T.2.map (eS 1 eB)), .ls A.1 1 (A.2.map (eS 1 (eS 1 eB)))]])]) (fun x => x ≤ n) (fun x => n - x) 0 (Ent.to [] (by simp only [go_sem]; rfl) rfl (by simp [imL_zero, iD_nil]) (by rfl) (by simp only [subEnv, go_sem, ↓reduceIte, Nat.reduceEqDiff, keep, memN] <;> simp [imL_zero])) (Nat.zero_le _) ?_
 intro x hx0
 by_cases hx : x < n
 ·have hbd := imL_bd (f := (fun x => safF R s.2 n x)) hx0
  have b1 := rD_at (R := R) hx
  simp +contextual -implicitDefEqProofs only [hx, b1, rD_len, rRow_len, D.size, D.sub, D.isAg, go_sem, ↓reduceIte, Nat.reduceEqDiff, Nat.reduceLeDiff, Nat.reduceLT, Int.ofNat_lt, Int.natCast_nonneg]
  refine vc_onU (α := Nat) [11, 12, 13, 40, 41, 42, 43, 44, 45, 46, 47, 48, 49, 50, 51, 52, 53, 54, 55] (fun y => [(40, .im none (.sc (.int .i64 y))), (11, .im none (.sc (.bool (safU R s.2 x y))))]) (fun y => [(28, .ar true (some false) 1 (iD (imL (fun x => safF R s.2 n x) x))), (31, .own (.ls (some false) 1 (rD n R))), (4, .ar false (some false) 3 [.ag [.sc (.int .i64 k), .sc (.int .i64 v), .ls nn 3 (ks.map eE)]]), (3, .ar false (some false) 5 [.ag [.sc (.int .i64 gs.1), .sc (.int .i64 gs.2), .sc (.int .i64 n), .ls T.1 1 (T.2.map (eS 1 eB)), .ls A.1 1 (A.2.map (eS 1 (eS 1 eB)))]])]) (fun y => y ≤ n) (fun y => n - y) 0 (Ent.to [] (by simp only [go_sem]; rfl) rfl (by simp) (by rfl) (by simp only [subEnv, go_sem, ↓reduceIte, Nat.reduceEqDiff, keep, memN] <;> simp [safU_zero])) (Nat.zero_le _) ?_
  intro y hy0
  by_cases hy : y < n
  ·have hst := safU_succ (R := R) (s := s.2) (x := x) (z := y)
   have b2 := rRow_at (f := R x) hy
   cases hv : safU R s.2 x y
   ·rw [hv, Bool.false_and] at hst
    simp +contextual -implicitDefEqProofs only [hy, b2, rRow_len, D.size, D.sub, D.isAg, go_sem, ↓reduceIte, Nat.reduceEqDiff, Nat.reduceLeDiff, Nat.reduceLT, Int.ofNat_lt, Int.natCast_nonneg]
    rw [wrap_i64 (by omega) (by omega), ← hst]
    exact ⟨y + 1, by omega, by omega, Ent.to [] (by simp only [go_sem]; rfl) rfl (by simp) (by rfl) (by simp only [subEnv, go_sem, ↓reduceIte, Nat.reduceEqDiff] <;> simp)⟩
   rw [hv, Bool.true_and] at hst
   cases hr1 : R x y
   ·rw [hr1] at b2 hst
    simp only [Bool.not_false, Bool.true_or] at hst
    simp +contextual -implicitDefEqProofs only [hy, b2, rRow_len, D.size, D.sub, D.isAg, Bool.not_false, go_sem, ↓reduceIte, Nat.reduceEqDiff, Nat.reduceLeDiff, Nat.reduceLT, Int.ofNat_lt, Int.natCast_nonneg]
    rw [wrap_i64 (by omega) (by omega), ← hst]
    exact ⟨y + 1, by omega, by omega, Ent.to [] (by simp only [go_sem]; rfl) rfl (by simp) (by rfl) (by simp only [subEnv, go_sem, ↓reduceIte, Nat.reduceEqDiff] <;> simp)⟩
   ·rw [hr1] at b2 hst
    simp only [Bool.not_true, Bool.false_or] at hst
    simp +contextual -implicitDefEqProofs only [hy, b2, rRow_len, D.size, D.sub, D.isAg, List.map_nil, List.map_cons, Bool.not_true, go_sem, ↓reduceIte, Nat.reduceEqDiff, Nat.reduceLeDiff, Nat.reduceLT, Int.ofNat_lt, Int.natCast_nonneg]
    refine callQ_self (ds := [eS 1 eI s, eI y]) (by rfl) (hc5 s y) ?_
    simp +contextual -implicitDefEqProofs only [eB, go_sem, ↓reduceIte, Nat.reduceEqDiff]
    rw [wrap_i64 (by omega) (by omega), ← hst]
    exact ⟨y + 1, by omega, by omega, Ent.to [] (by simp only [go_sem]; rfl) rfl (by simp) (by rfl) (by simp only [subEnv, go_sem, ↓reduceIte, Nat.reduceEqDiff] <;> simp)⟩
  ·obtain rfl : n = y := by omega
   cases hF : (fun x => safF R s.2 n x) x
   ·have hF' : safU R s.2 x n = false := hF
    simp +contextual -implicitDefEqProofs only [hy, hF', go_sem, ↓reduceIte, Nat.reduceEqDiff, Int.ofNat_lt]
    rw [wrap_i64 (by omega) (by omega)]
    exact ⟨x + 1, by omega, by omega, Ent.to [] (by simp only [go_sem]; rfl) rfl (by simp [imL_f hF]) (by rfl) (by simp only [subEnv, go_sem, ↓reduceIte, Nat.reduceEqDiff] <;> simp [imL_f hF])⟩
   ·have hF' : safU R s.2 x n = true := hF
    simp +contextual -implicitDefEqProofs only [hy, hF', iD_len, D.size, beq_self_eq_true, List.map_nil, List.map_cons, List.length_cons, List.length_nil, bne, Bool.not_false, Bool.and_true, Bool.or_true, go_sem, ↓reduceIte, Nat.reduceEqDiff, Nat.reduceLeDiff, Nat.reduceMul, Nat.reduceBEq, Nat.reduceLT, Int.ofNat_lt]
    refine ⟨rfl, ⟨by (try simp); omega, by unfold maxEl; (try simp); omega, by simp [D.size]⟩, x + 1, by omega, by omega, ?_⟩
    rw [wrap_i64 (by omega) (by omega)]
    exact Ent.to [] (by simp only [go_sem]; rfl) rfl (by simp [imL_t hF, iD_app]) (by rfl) (by simp only [subEnv, go_sem, ↓reduceIte, Nat.reduceEqDiff] <;> simp [imL_t hF])
 ·obtain rfl : x = n := by omega
  simp +contextual -implicitDefEqProofs only [hx, iD_len, rD_len, beq_self_eq_true, go_sem, ↓reduceIte, Nat.reduceEqDiff, Nat.reduceBEq, Int.ofNat_lt]
  exact D.Le.refl _
end Go.Ax
