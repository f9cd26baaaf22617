/- Contracts of functions of the seat, proved over the engine. No condition. -/
import Derived.Test.YthcgldjelbmjgaaX47
import Derived.Test.YthcgldjelbmjgaaX6
set_option linter.unusedSimpArgs false
set_option linter.unusedVariables false
set_option linter.unnecessarySimpa false
namespace Go.Ax
set_option linter.unusedSimpArgs false
set_option maxRecDepth 20000
set_option maxHeartbeats 4000000

def bitI (a : Int) (i : Nat) : Bool := IntKind.i64.wrap (BitVec.ofInt IntKind.i64.bits (a.fdiv (2 ^ min i IntKind.i64.bits)) &&& BitVec.ofInt IntKind.i64.bits 1).toNat == 1
def wTestF (w : Wo) (i : Nat) : Nat → Bool := fun x => bitI (w.1.2.getD x 0) i
def wRel (w : Wo) (a : Nat) : Rel := fun x y => y == x + 1 && (w.2.2.getD x 0 == (a : Int))
def wTest (w : Wo) (n i : Nat) : D := .ls (some false) 1 (rRow n (wTestF w i))
def wTab (w : Wo) (n a : Nat) : D := .ls (some false) 1 (rD n (wRel w a))
def rngL (n : Int) : List Nat := List.range n.toNat

def wordMo (g : Int × Int) (w : Wo) (n : Nat) : Mo := (g, n, (nnL (rngL g.1), (rngL g.1).map fun i => (some false, tabL n (wTestF w i))), (nnL (rngL g.2), (rngL g.2).map fun a => rTab n (wRel w a)))
def wordR (g : Int × Int) (w : Wo) : Mo × Int := if okG g = true ∧ okWo g w = true then (if w.1.2.length > 8 then (zeroMo, 3) else (wordMo g w w.1.2.length, 0)) else (zeroMo, 1)
theorem word_eq {g : Int × Int} {w : Wo} {n : Nat} : eM (wordMo g w n) = .ag [.sc (.int .i64 g.1), .sc (.int .i64 g.2), .sc (.int .i64 n), .ls (nnL (rngL g.1)) 1 ((rngL g.1).map (wTest w n)), .ls (nnL (rngL g.2)) 1 ((rngL g.2).map (wTab w n))] := by
  simp only [eM, wordMo, eI, eG]
  unfold wTab wTest
  simp only [eS, List.map_map, Function.comp_def, rTab, rD, rRow, tabL_map, eB]
theorem rRow_succ {n : Nat} {f : Nat → Bool} : rRow (n + 1) f = rRow n f ++ [.sc (.bool (f n))] := tabL_succ
theorem rRow_zero {f : Nat → Bool} : rRow 0 f = [] := rfl
def wF (w : Wo) (a k : Nat) : Rel := fun p q => decide (p < k) && wRel w a p q
theorem wF_zero {w : Wo} {a : Nat} : wF w a 0 = noneR := by funext p q; simp [wF, noneR]
theorem wF_step {w : Wo} {a k : Nat} : setR (wF w a k) k (k + 1) (w.2.2.getD k 0 == (a : Int)) = wF w a (k + 1) := by
  funext p q; unfold setR wF wRel
  by_cases hp : p = k
  · subst hp
    by_cases hq : q = p + 1
    · subst hq; simp
    · simp [hq]
  · have h1 : p < k + 1 ↔ p < k := by omega
    simp [hp, h1]
theorem wF_full {w : Wo} {n a k : Nat} (h : k + 1 = n) : rD n (wF w a k) = rD n (wRel w a) := rD_congr fun p q hp hq => by
  unfold wF
  by_cases h1 : p < k
  · simp [h1]
  · have h2 : (q == p + 1) = false := by rw [beq_eq_false_iff_ne]; omega
    simp [wRel, h2]
theorem rngL_at {n : Int} {i : Nat} (h : i < (rngL n).length) : (rngL n)[i] = i := by simp [rngL]
theorem rngL_len {n : Int} : (rngL n).length = n.toNat := by simp [rngL]
theorem wrap_u64i {i : Int} (h : 0 ≤ i) (h2 : i < 18446744073709551616) : IntKind.u64.wrap i = i := by
  have : IntKind.u64.wrap i = i % 18446744073709551616 := rfl
  omega
structure WmOk (g : Int × Int) (w : Wo) (n : Nat) : Prop where
  t0 : 0 ≤ g.1
  t1 : g.1 ≤ 1000
  a0 : 0 ≤ g.2
  a1 : g.2 ≤ 1000
  n1 : 1 ≤ n
  n8 : n ≤ 8
  la : w.1.2.length = n
  lb : w.2.2.length + 1 = n
theorem wm_ok {g : Int × Int} {w : Wo} (h1 : okG g = true) (h2 : okWo g w = true) (h3 : ¬ w.1.2.length > 8) : WmOk g w w.1.2.length := by
  simp only [okG, Bool.and_eq_true, isIn_iff'] at h1
  simp only [okWo, traceOk, lenIs, allIn, Bool.and_eq_true, decide_eq_true_eq, beq_iff_eq, List.all_eq_true, isIn_iff'] at h2
  exact ⟨by omega, by omega, by omega, by omega, by omega, by omega, rfl, by omega⟩

def k_l05WordModel (f1 : Nat) : RC := (.seq (.reg false [⟨none, .box 2 2 (.t 0)⟩, ⟨none, .zer 4 5 (.ag [(.sc (.int .i64 0)), (.sc (.int .i64 0)), (.sc (.int .i64 0)), (.ls (some true) 1 []), (.ls (some true) 1 [])])⟩]) ((.seq (.reg false [⟨none, .mv 13 (.t 1)⟩, ⟨none, .nck 14 (.t 13)⟩, ⟨none, .fa 15 0 (.t 14)⟩, ⟨none, .ld 16 false 1 (.t 15)⟩, ⟨none, .len 17 (.t 16)⟩, ⟨none, .mv 5 (.t 17)⟩]) ((.seq (.reg false [⟨none, .ld 18 true 2 (.t 2)⟩, ⟨none, .mv 19 (.t 5)⟩, ⟨none, .bld 20 (.ag [(.sc (.int .i64 0)), (.sc (.int .i64 0)), (.sc (.int .i64 0)), (.ls (some true) 1 []), (.ls (some true) 1 [])]) [(0, 2, (.t 18)), (2, 1, (.t 19))]⟩, ⟨none, .zer 6 5 (.ag [(.sc (.int .i64 0)), (.sc (.int .i64 0)), (.sc (.int .i64 0)), (.ls (some true) 1 []), (.ls (some true) 1 [])])⟩, ⟨none, .st 5 (.t 6) (.t 20)⟩]) ((.seq ((.seq (.reg false [⟨none, .mv 7 (.c (.sc (.int .i64 0)))⟩]) (.blk 0 (.loop ((.seq ((.seq (.reg false [⟨none, .mv 21 (.t 7)⟩, ⟨none, .fa 22 0 (.t 2)⟩, ⟨none, .ld 23 false 1 (.t 22)⟩, ⟨none, .bin 24 .lss (.t 21) (.t 23)⟩]) (.cond (.t 24) (.skip) (.exit 0)))) ((.seq (.blk 1 ((.seq (.reg false [⟨none, .bs 27 1 (.sc (.bool false)) 0 []⟩, ⟨none, .mv 8 (.t 27)⟩]) ((.seq ((.seq (.reg false [⟨none, .mv 9 (.c (.sc (.int .i64 0)))⟩]) (.blk 2 (.loop ((.seq ((.seq (.reg false [⟨none, .mv 28 (.t 9)⟩, ⟨none, .mv 29 (.t 5)⟩, ⟨none, .bin 30 .lss (.t 28) (.t 29)⟩]) (.cond (.t 30) (.skip) (.exit 2)))) ((.seq (.blk 3 (.reg false [⟨none, .mv 33 (.t 8)⟩, ⟨none, .mv 34 (.t 1)⟩, ⟨none, .nck 35 (.t 34)⟩, ⟨none, .fa 36 0 (.t 35)⟩, ⟨none, .ld 37 false 1 (.t 36)⟩, ⟨none, .mv 38 (.t 9)⟩, ⟨none, .ia 39 1 (.t 37) (.t 38)⟩, ⟨none, .ld 40 false 1 (.t 39)⟩, ⟨none, .mv 41 (.t 7)⟩, ⟨none, .cvt 42 .u64 (.t 41)⟩, ⟨none, .bin 43 .shr (.t 40) (.t 42)⟩, ⟨none, .bin 44 .and (.t 43) (.c (.sc (.int .i64 1)))⟩, ⟨none, .bin 45 .eql (.t 44) (.c (.sc (.int .i64 1)))⟩, ⟨none, .bs 46 1 (.sc (.bool false)) 1 [(0, (.t 45))]⟩, ⟨none, .app 47 1 1 (.t 33) (.t 46)⟩, ⟨none, .mv 8 (.t 47)⟩])) (.reg false [⟨none, .mv 31 (.t 9)⟩, ⟨none, .bin 32 .add (.t 31) (.c (.sc (.int .i64 1)))⟩, ⟨none, .mv 9 (.t 32)⟩]))))))))) (.reg false [⟨none, .fa 48 3 (.t 6)⟩, ⟨none, .ld 49 false 1 (.t 48)⟩, ⟨none, .mv 50 (.t 8)⟩, ⟨none, .bs 51 1 (.ls (some true) 1 []) 1 [(0, (.t 50))]⟩, ⟨none, .app 52 1 24 (.t 49) (.t 51)⟩, ⟨none, .fa 53 3 (.t 6)⟩, ⟨none, .st 1 (.t 53) (.t 52)⟩])))))) (.reg false [⟨none, .mv 25 (.t 7)⟩, ⟨none, .bin 26 .add (.t 25) (.c (.sc (.int .i64 1)))⟩, ⟨none, .mv 7 (.t 26)⟩]))))))))) ((.seq ((.seq (.reg false [⟨none, .mv 10 (.c (.sc (.int .i64 0)))⟩]) (.blk 4 (.loop ((.seq ((.seq (.reg false [⟨none, .mv 54 (.t 10)⟩, ⟨none, .fa 55 1 (.t 2)⟩, ⟨none, .ld 56 false 1 (.t 55)⟩, ⟨none, .bin 57 .lss (.t 54) (.t 56)⟩]) (.cond (.t 57) (.skip) (.exit 4)))) ((.seq (.blk 5 ((.seq (.reg false [⟨none, .mv 60 (.t 5)⟩, ⟨none, .call (some 61) f1 [(.t 60)]⟩, ⟨none, .mv 11 (.t 61)⟩]) ((.seq ((.seq (.reg false [⟨none, .mv 12 (.c (.sc (.int .i64 0)))⟩]) (.blk 6 (.loop ((.seq ((.seq (.reg false [⟨none, .mv 62 (.t 12)⟩, ⟨none, .bin 63 .add (.t 62) (.c (.sc (.int .i64 1)))⟩, ⟨none, .mv 64 (.t 5)⟩, ⟨none, .bin 65 .lss (.t 63) (.t 64)⟩]) (.cond (.t 65) (.skip) (.exit 6)))) ((.seq (.blk 7 (.reg true [⟨none, .mv 68 (.t 11)⟩, ⟨none, .mv 69 (.t 12)⟩, ⟨none, .ia 70 1 (.t 68) (.t 69)⟩, ⟨none, .ld 71 false 1 (.t 70)⟩, ⟨none, .mv 72 (.t 12)⟩, ⟨none, .bin 73 .add (.t 72) (.c (.sc (.int .i64 1)))⟩, ⟨none, .mv 74 (.t 1)⟩, ⟨none, .nck 75 (.t 74)⟩, ⟨none, .fa 76 1 (.t 75)⟩, ⟨none, .ld 77 false 1 (.t 76)⟩, ⟨none, .mv 78 (.t 12)⟩, ⟨none, .ia 79 1 (.t 77) (.t 78)⟩, ⟨none, .ld 80 false 1 (.t 79)⟩, ⟨none, .mv 81 (.t 10)⟩, ⟨none, .bin 82 .eql (.t 80) (.t 81)⟩, ⟨none, .ia 83 1 (.t 71) (.t 73)⟩, ⟨none, .st 1 (.t 83) (.t 82)⟩])) (.reg false [⟨none, .mv 66 (.t 12)⟩, ⟨none, .bin 67 .add (.t 66) (.c (.sc (.int .i64 1)))⟩, ⟨none, .mv 12 (.t 67)⟩]))))))))) (.reg false [⟨none, .fa 84 4 (.t 6)⟩, ⟨none, .ld 85 false 1 (.t 84)⟩, ⟨none, .mv 86 (.t 11)⟩, ⟨none, .bs 87 1 (.ls (some true) 1 []) 1 [(0, (.t 86))]⟩, ⟨none, .app 88 1 24 (.t 85) (.t 87)⟩, ⟨none, .fa 89 4 (.t 6)⟩, ⟨none, .st 1 (.t 89) (.t 88)⟩])))))) (.reg false [⟨none, .mv 58 (.t 10)⟩, ⟨none, .bin 59 .add (.t 58) (.c (.sc (.int .i64 1)))⟩, ⟨none, .mv 10 (.t 59)⟩]))))))))) ((.seq (.reg false [⟨none, .ld 90 true 5 (.t 6)⟩, ⟨none, .st 5 (.t 4) (.t 90)⟩]) (.ret))))))))))))
def K_l05WordModel (P : Program) (fno : Nat) : Prop := ∀ (g : Int × Int) (w : Wo) (n : Nat) (hW : WmOk g w n), AF P fno [eG g, .pt (eWo w) 0] (.own (eM (wordMo g w n)))
theorem a_l05WordModel {P : Program} (hm : P.follows .mixedOrders = true) {g f1 : Nat} (hr : resF P g = some (91, k_l05WordModel f1, [.c 4 5 true])) (hc1 : K_l05None P f1) : K_l05WordModel P g := by
  intro g w n hW
  obtain ⟨w1, w2⟩ := w
  have t0 := hW.t0
  have t1 := hW.t1
  have a0 := hW.a0
  have a1 := hW.a1
  have n1 := hW.n1
  have n8 := hW.n8
  have la := hW.la
  have lb := hW.lb
  simp only at la lb
  have hr1 : (rngL g.1).length = g.1.toNat := rngL_len
  have hr2 : (rngL g.2).length = g.2.toNat := rngL_len
  have c1 : ((g.1.toNat : Nat) : Int) = g.1 := Int.toNat_of_nonneg t0
  have c2 : ((g.2.toNat : Nat) : Int) = g.2 := Int.toNat_of_nonneg a0
  have hS := word_eq (g := g) (w := (w1, w2)) (n := n)
  simp only [eM, eS, eI, eG] at hS
  refine af_of_res hr hm rfl fun hb => ?_
  simp +contextual -implicitDefEqProofs only [k_l05WordModel, la, at0, D.put, D.cells, D.size, D.sizeL, D.isAg, modeOf, noPtrs, List.length_map, eWo, eG, eM, eS, eI, eB, D.sub, Int.cast_ofNat_Int, Int.reduceLT, Int.reduceLE, Int.le_refl, Int.reduceBEq, Int.reduceEq, beq_self_eq_true, Int.reduceToNat, bne, Bool.not_true, Bool.not_false, Bool.true_and, Bool.false_and, Bool.and_true, Bool.and_false, Bool.true_or, Bool.false_or, Bool.or_true, Bool.or_false, go_sem, ↓reduceIte, Nat.reduceEqDiff, Nat.reduceAdd, Nat.reduceLeDiff, Nat.reduceMul, Nat.reduceBEq, Nat.reduceBneDiff, Nat.reduceLT, Nat.reduceSub, Bool.false_eq_true, List.cons_append, List.nil_append, Int.ofNat_lt, Int.natCast_nonneg]
  refine vc_onU (α := Nat) [7, 8, 9, 21, 22, 23, 24, 25, 26, 27, 28, 29, 30, 31, 32, 33, 34, 35, 36, 37, 38, 39, 40, 41, 42, 43, 44, 45, 46, 47, 48, 49, 50, 51, 52, 53] (fun i => [(7, .im none (.sc (.int .i64 i)))]) (fun i => [(6, .ar true (some false) 5 [.ag [.sc (.int .i64 g.1), .sc (.int .i64 g.2), .sc (.int .i64 n), .ls (nnL ((rngL g.1).take i)) 1 (((rngL g.1).take i).map (wTest (w1, w2) n)), .ls (some true) 1 []]]), (4, .ar true (some false) 5 [.ag [.sc (.int .i64 0), .sc (.int .i64 0), .sc (.int .i64 0), .ls (some true) 1 [], .ls (some true) 1 []]]), (2, .ar false (some false) 2 [.ag [.sc (.int .i64 g.1), .sc (.int .i64 g.2)]])]) (fun i => i ≤ (rngL g.1).length) (fun i => (rngL g.1).length - i) 0 (Ent.to [] (by simp only [go_sem, ↓reduceIte, Nat.reduceEqDiff, Nat.reduceBEq, Nat.reduceBneDiff, Bool.false_eq_true]; rfl) rfl (by simp [nnL]) (by rfl) (by simp only [subEnv, go_sem, ↓reduceIte, Nat.reduceEqDiff, Nat.reduceBEq, keep, memN, Bool.or_false, Bool.false_or, Bool.or_self, Bool.false_eq_true] <;> simp)) (Nat.zero_le _) ?_
  intro i hi0
  by_cases hi : i < (rngL g.1).length
  · have hi' : (i : Int) < g.1 := by omega
    have e1 := rngL_at hi
    simp +contextual -implicitDefEqProofs only [hi', la, at0, D.put, D.cells, D.size, D.sizeL, D.isAg, modeOf, noPtrs, List.length_map, eWo, eG, eM, eS, eI, eB, D.sub, Int.cast_ofNat_Int, Int.reduceLT, Int.reduceLE, Int.le_refl, Int.reduceBEq, Int.reduceEq, beq_self_eq_true, Int.reduceToNat, bne, Bool.not_true, Bool.not_false, Bool.true_and, Bool.false_and, Bool.and_true, Bool.and_false, Bool.true_or, Bool.false_or, Bool.or_true, Bool.or_false, go_sem, ↓reduceIte, Nat.reduceEqDiff, Nat.reduceAdd, Nat.reduceLeDiff, Nat.reduceMul, Nat.reduceBEq, Nat.reduceBneDiff, Nat.reduceLT, Nat.reduceSub, Bool.false_eq_true, List.cons_append, List.nil_append, Int.ofNat_lt, Int.natCast_nonneg]
    refine vc_onU (α := Nat) [8, 9, 27, 28, 29, 30, 31, 32, 33, 34, 35, 36, 37, 38, 39, 40, 41, 42, 43, 44, 45, 46, 47] (fun x => [(9, .im none (.sc (.int .i64 x))), (8, .sm 27 0 x)]) (fun x => [(27, .ar true (some false) 1 (rRow x (wTestF (w1, w2) i))), (6, .ar true (some false) 5 [.ag [.sc (.int .i64 g.1), .sc (.int .i64 g.2), .sc (.int .i64 n), .ls (nnL ((rngL g.1).take i)) 1 (((rngL g.1).take i).map (wTest (w1, w2) n)), .ls (some true) 1 []]]), (4, .ar true (some false) 5 [.ag [.sc (.int .i64 0), .sc (.int .i64 0), .sc (.int .i64 0), .ls (some true) 1 [], .ls (some true) 1 []]]), (2, .ar false (some false) 2 [.ag [.sc (.int .i64 g.1), .sc (.int .i64 g.2)]])]) (fun x => x ≤ n) (fun x => n - x) 0 (Ent.to [] (by simp only [go_sem, ↓reduceIte, Nat.reduceEqDiff, Nat.reduceBEq, Nat.reduceBneDiff, Bool.false_eq_true]; rfl) rfl (by simp [rRow_zero]) (by rfl) (by simp only [subEnv, go_sem, ↓reduceIte, Nat.reduceEqDiff, Nat.reduceBEq, keep, memN, Bool.or_false, Bool.false_or, Bool.or_self, Bool.false_eq_true] <;> simp)) (Nat.zero_le _) ?_
    intro x hx0
    by_cases hx : x < n
    · have hx' : x < w1.2.length := by omega
      have e2 := at_mapD (f := eI) (d := 0) hx'
      have u1 := wrap_u64i (i := (i : Int)) (by omega) (by omega)
      simp +contextual -implicitDefEqProofs only [hx, hx', e2, la, rRow_len, at0, u1, Int.toNat_natCast, D.put, D.cells, D.size, D.sizeL, D.isAg, modeOf, noPtrs, List.length_map, eWo, eG, eM, eS, eI, eB, D.sub, Int.cast_ofNat_Int, Int.reduceLT, Int.reduceLE, Int.le_refl, Int.reduceBEq, Int.reduceEq, beq_self_eq_true, Int.reduceToNat, bne, Bool.not_true, Bool.not_false, Bool.true_and, Bool.false_and, Bool.and_true, Bool.and_false, Bool.true_or, Bool.false_or, Bool.or_true, Bool.or_false, go_sem, ↓reduceIte, Nat.reduceEqDiff, Nat.reduceAdd, Nat.reduceLeDiff, Nat.reduceMul, Nat.reduceBEq, Nat.reduceBneDiff, Nat.reduceLT, Nat.reduceSub, Bool.false_eq_true, List.cons_append, List.nil_append, Int.ofNat_lt, Int.natCast_nonneg]
      refine ⟨rfl, ⟨by (try simp); omega, by unfold maxEl; (try simp); omega, by simp [D.size]⟩, x + 1, by omega, by omega, ?_⟩
      rw [wrap_i64 (by omega) (by omega)]
      exact Ent.to [] (by simp only [go_sem, ↓reduceIte, Nat.reduceEqDiff, Nat.reduceBEq, Nat.reduceBneDiff, Bool.false_eq_true]; rfl) rfl (by rw [rRow_succ]; exact fun _ h => h) (by rfl) (by simp only [subEnv, go_sem, ↓reduceIte, Nat.reduceEqDiff, Nat.reduceBEq, keep, memN, Bool.or_false, Bool.false_or, Bool.or_self, Bool.false_eq_true] <;> simp)
    · obtain rfl : x = n := by omega
      have hsm : (rngL g.1).length ≤ 1000 := by omega
      simp +contextual -implicitDefEqProofs only [hx, la, rRow_len, at0, D.put, D.cells, D.size, D.sizeL, D.isAg, modeOf, noPtrs, List.length_map, eWo, eG, eM, eS, eI, eB, D.sub, Int.cast_ofNat_Int, Int.reduceLT, Int.reduceLE, Int.le_refl, Int.reduceBEq, Int.reduceEq, beq_self_eq_true, Int.reduceToNat, bne, Bool.not_true, Bool.not_false, Bool.true_and, Bool.false_and, Bool.and_true, Bool.and_false, Bool.true_or, Bool.false_or, Bool.or_true, Bool.or_false, go_sem, ↓reduceIte, Nat.reduceEqDiff, Nat.reduceAdd, Nat.reduceLeDiff, Nat.reduceMul, Nat.reduceBEq, Nat.reduceBneDiff, Nat.reduceLT, Nat.reduceSub, Bool.false_eq_true, List.cons_append, List.nil_append, Int.ofNat_lt, Int.natCast_nonneg]
      refine ⟨rfl, ⟨by (try simp); omega, by unfold maxEl; (try simp); omega, by simp [D.size]⟩, i + 1, by omega, by omega, ?_⟩
      rw [wrap_i64 (by omega) (by omega)]
      exact Ent.to [] (by simp only [go_sem, ↓reduceIte, Nat.reduceEqDiff, Nat.reduceBEq, Nat.reduceBneDiff, Bool.false_eq_true]; rfl) rfl (by simp [nnL_take hi, map_take hi, wTest, e1]) (by rfl) (by simp only [subEnv, go_sem, ↓reduceIte, Nat.reduceEqDiff, Nat.reduceBEq, keep, memN, Bool.or_false, Bool.false_or, Bool.or_self, Bool.false_eq_true] <;> simp)
  · rw [List.take_of_length_le (show (rngL g.1).length ≤ i by omega)]
    have hi' : ¬ (i : Int) < g.1 := by omega
    simp +contextual -implicitDefEqProofs only [hi', at0, D.put, D.cells, D.size, D.sizeL, D.isAg, modeOf, noPtrs, List.length_map, eWo, eG, eM, eS, eI, eB, D.sub, Int.cast_ofNat_Int, Int.reduceLT, Int.reduceLE, Int.le_refl, Int.reduceBEq, Int.reduceEq, beq_self_eq_true, Int.reduceToNat, bne, Bool.not_true, Bool.not_false, Bool.true_and, Bool.false_and, Bool.and_true, Bool.and_false, Bool.true_or, Bool.false_or, Bool.or_true, Bool.or_false, go_sem, ↓reduceIte, Nat.reduceEqDiff, Nat.reduceAdd, Nat.reduceLeDiff, Nat.reduceMul, Nat.reduceBEq, Nat.reduceBneDiff, Nat.reduceLT, Nat.reduceSub, Bool.false_eq_true, List.cons_append, List.nil_append, Int.ofNat_lt, Int.natCast_nonneg]
    refine vc_onU (α := Nat) [10, 11, 12, 54, 55, 56, 57, 58, 59, 60, 61, 62, 63, 64, 65, 66, 67, 68, 69, 70, 71, 72, 73, 74, 75, 76, 77, 78, 79, 80, 81, 82, 83, 84, 85, 86, 87, 88, 89] (fun i => [(10, .im none (.sc (.int .i64 i)))]) (fun i => [(6, .ar true (some false) 5 [.ag [.sc (.int .i64 g.1), .sc (.int .i64 g.2), .sc (.int .i64 n), .ls (nnL ((rngL g.1))) 1 (((rngL g.1)).map (wTest (w1, w2) n)), .ls (nnL ((rngL g.2).take i)) 1 (((rngL g.2).take i).map (wTab (w1, w2) n))]]), (4, .ar true (some false) 5 [.ag [.sc (.int .i64 0), .sc (.int .i64 0), .sc (.int .i64 0), .ls (some true) 1 [], .ls (some true) 1 []]]), (2, .ar false (some false) 2 [.ag [.sc (.int .i64 g.1), .sc (.int .i64 g.2)]])]) (fun i => i ≤ (rngL g.2).length) (fun i => (rngL g.2).length - i) 0 (Ent.to [] (by simp only [go_sem, ↓reduceIte, Nat.reduceEqDiff, Nat.reduceBEq, Nat.reduceBneDiff, Bool.false_eq_true]; rfl) rfl (by simp [nnL]) (by rfl) (by simp only [subEnv, go_sem, ↓reduceIte, Nat.reduceEqDiff, Nat.reduceBEq, keep, memN, Bool.or_false, Bool.false_or, Bool.or_self, Bool.false_eq_true] <;> simp)) (Nat.zero_le _) ?_
    intro i hi0
    by_cases hi : i < (rngL g.2).length
    · have hi' : (i : Int) < g.2 := by omega
      have e1 := rngL_at hi
      simp +contextual -implicitDefEqProofs only [hi', at0, D.put, D.cells, D.size, D.sizeL, D.isAg, modeOf, noPtrs, List.length_map, eWo, eG, eM, eS, eI, eB, D.sub, Int.cast_ofNat_Int, Int.reduceLT, Int.reduceLE, Int.le_refl, Int.reduceBEq, Int.reduceEq, beq_self_eq_true, Int.reduceToNat, bne, Bool.not_true, Bool.not_false, Bool.true_and, Bool.false_and, Bool.and_true, Bool.and_false, Bool.true_or, Bool.false_or, Bool.or_true, Bool.or_false, go_sem, ↓reduceIte, Nat.reduceEqDiff, Nat.reduceAdd, Nat.reduceLeDiff, Nat.reduceMul, Nat.reduceBEq, Nat.reduceBneDiff, Nat.reduceLT, Nat.reduceSub, Bool.false_eq_true, List.cons_append, List.nil_append, Int.ofNat_lt, Int.natCast_nonneg]
      refine callQ_self (ds := [eI n]) (by rfl) (hc1 n (by omega)) ?_
      simp +contextual -implicitDefEqProofs only [rD_len, at0, D.put, D.cells, D.size, D.sizeL, D.isAg, modeOf, noPtrs, List.length_map, eWo, eG, eM, eS, eI, eB, D.sub, Int.cast_ofNat_Int, Int.reduceLT, Int.reduceLE, Int.le_refl, Int.reduceBEq, Int.reduceEq, beq_self_eq_true, Int.reduceToNat, bne, Bool.not_true, Bool.not_false, Bool.true_and, Bool.false_and, Bool.and_true, Bool.and_false, Bool.true_or, Bool.false_or, Bool.or_true, Bool.or_false, go_sem, ↓reduceIte, Nat.reduceEqDiff, Nat.reduceAdd, Nat.reduceLeDiff, Nat.reduceMul, Nat.reduceBEq, Nat.reduceBneDiff, Nat.reduceLT, Nat.reduceSub, Bool.false_eq_true, List.cons_append, List.nil_append, Int.ofNat_lt, Int.natCast_nonneg]
      refine vc_onU (α := Nat) [12, 62, 63, 64, 65, 66, 67, 68, 69, 70, 71, 72, 73, 74, 75, 76, 77, 78, 79, 80, 81, 82, 83] (fun x => [(12, .im none (.sc (.int .i64 x)))]) (fun x => [(61, .ar true (some false) 1 (rD n (wF (w1, w2) i x))), (6, .ar true (some false) 5 [.ag [.sc (.int .i64 g.1), .sc (.int .i64 g.2), .sc (.int .i64 n), .ls (nnL ((rngL g.1))) 1 (((rngL g.1)).map (wTest (w1, w2) n)), .ls (nnL ((rngL g.2).take i)) 1 (((rngL g.2).take i).map (wTab (w1, w2) n))]]), (4, .ar true (some false) 5 [.ag [.sc (.int .i64 0), .sc (.int .i64 0), .sc (.int .i64 0), .ls (some true) 1 [], .ls (some true) 1 []]]), (2, .ar false (some false) 2 [.ag [.sc (.int .i64 g.1), .sc (.int .i64 g.2)]])]) (fun x => x + 1 ≤ n) (fun x => n - x) 0 (Ent.to [] (by simp only [go_sem, ↓reduceIte, Nat.reduceEqDiff, Nat.reduceBEq, Nat.reduceBneDiff, Bool.false_eq_true]; rfl) rfl (by simp [wF_zero, noneR_eq]) (by rfl) (by simp only [subEnv, go_sem, ↓reduceIte, Nat.reduceEqDiff, Nat.reduceBEq, keep, memN, Bool.or_false, Bool.false_or, Bool.or_self, Bool.false_eq_true] <;> simp)) (by omega) ?_
      intro x hx0
      have w1' : IntKind.i64.wrap ((x : Int) + 1) = ((x + 1 : Nat) : Int) := by rw [wrap_i64 (by omega) (by omega)]; omega
      by_cases hx : x + 1 < n
      · have hxn : x < n := by omega
        have hx' : x < w2.2.length := by omega
        have e2 := at_mapD (f := eI) (d := 0) hx'
        have b1 := rD_at (R := wF (w1, w2) i x) hxn
        have b2 := rRow_at (f := wF (w1, w2) i x x) hx
        have hst := wF_step (w := (w1, w2)) (a := i) (k := x)
        simp +contextual -implicitDefEqProofs only [hx, hxn, hx', w1', e2, b1, b2, rD_len, rRow_len, at0, Int.toNat_natCast, D.put, D.cells, D.size, D.sizeL, D.isAg, modeOf, noPtrs, List.length_map, eWo, eG, eM, eS, eI, eB, D.sub, Int.cast_ofNat_Int, Int.reduceLT, Int.reduceLE, Int.le_refl, Int.reduceBEq, Int.reduceEq, beq_self_eq_true, Int.reduceToNat, bne, Bool.not_true, Bool.not_false, Bool.true_and, Bool.false_and, Bool.and_true, Bool.and_false, Bool.true_or, Bool.false_or, Bool.or_true, Bool.or_false, inSet, rD_set, List.length_set, go_sem, ↓reduceIte, Nat.reduceEqDiff, Nat.reduceAdd, Nat.reduceLeDiff, Nat.reduceMul, Nat.reduceBEq, Nat.reduceBneDiff, Nat.reduceLT, Nat.reduceSub, Bool.false_eq_true, List.cons_append, List.nil_append, Int.ofNat_lt, Int.natCast_nonneg]
        rw [hst]
        exact ⟨x + 1, by omega, by omega, Ent.to [] (by simp only [go_sem, ↓reduceIte, Nat.reduceEqDiff, Nat.reduceBEq, Nat.reduceBneDiff, Bool.false_eq_true]; rfl) rfl (by simp) (by rfl) (by simp only [subEnv, go_sem, ↓reduceIte, Nat.reduceEqDiff, Nat.reduceBEq, keep, memN, Bool.or_false, Bool.false_or, Bool.or_self, Bool.false_eq_true] <;> simp)⟩
      · have hxn : x + 1 = n := by omega
        have hsm : (rngL g.2).length ≤ 1000 := by omega
        have hnl : ¬ ((x + 1 : Nat) : Int) < (n : Int) := by omega
        simp +contextual -implicitDefEqProofs only [hx, hnl, w1', rD_len, at0, D.put, D.cells, D.size, D.sizeL, D.isAg, modeOf, noPtrs, List.length_map, eWo, eG, eM, eS, eI, eB, D.sub, Int.cast_ofNat_Int, Int.reduceLT, Int.reduceLE, Int.le_refl, Int.reduceBEq, Int.reduceEq, beq_self_eq_true, Int.reduceToNat, bne, Bool.not_true, Bool.not_false, Bool.true_and, Bool.false_and, Bool.and_true, Bool.and_false, Bool.true_or, Bool.false_or, Bool.or_true, Bool.or_false, go_sem, ↓reduceIte, Nat.reduceEqDiff, Nat.reduceAdd, Nat.reduceLeDiff, Nat.reduceMul, Nat.reduceBEq, Nat.reduceBneDiff, Nat.reduceLT, Nat.reduceSub, Bool.false_eq_true, List.cons_append, List.nil_append, Int.ofNat_lt, Int.natCast_nonneg]
        refine ⟨rfl, ⟨by (try simp); omega, by unfold maxEl; (try simp); omega, by simp [D.size]⟩, i + 1, by omega, by omega, ?_⟩
        rw [wrap_i64 (by omega) (by omega)]
        exact Ent.to [] (by simp only [go_sem, ↓reduceIte, Nat.reduceEqDiff, Nat.reduceBEq, Nat.reduceBneDiff, Bool.false_eq_true]; rfl) rfl (by simp [nnL_take hi, map_take hi, wTab, e1, wF_full hxn]) (by rfl) (by simp only [subEnv, go_sem, ↓reduceIte, Nat.reduceEqDiff, Nat.reduceBEq, keep, memN, Bool.or_false, Bool.false_or, Bool.or_self, Bool.false_eq_true] <;> simp)
    · rw [List.take_of_length_le (show (rngL g.2).length ≤ i by omega)]
      have hi' : ¬ (i : Int) < g.2 := by omega
      simp +contextual -implicitDefEqProofs only [hi', at0, D.put, D.cells, D.size, D.sizeL, D.isAg, modeOf, noPtrs, List.length_map, eWo, eG, eM, eS, eI, eB, D.sub, Int.cast_ofNat_Int, Int.reduceLT, Int.reduceLE, Int.le_refl, Int.reduceBEq, Int.reduceEq, beq_self_eq_true, Int.reduceToNat, bne, Bool.not_true, Bool.not_false, Bool.true_and, Bool.false_and, Bool.and_true, Bool.and_false, Bool.true_or, Bool.false_or, Bool.or_true, Bool.or_false, go_sem, ↓reduceIte, Nat.reduceEqDiff, Nat.reduceAdd, Nat.reduceLeDiff, Nat.reduceMul, Nat.reduceBEq, Nat.reduceBneDiff, Nat.reduceLT, Nat.reduceSub, Bool.false_eq_true, List.cons_append, List.nil_append, Int.ofNat_lt, Int.natCast_nonneg]
      exact D.Le.of_eq hS.symm

def k_spWordModel (f1 f2 : Nat) : RC := (.seq (.reg false [⟨none, .box 2 2 (.t 0)⟩, ⟨none, .box 3 2 (.t 1)⟩, ⟨none, .zer 4 5 (.ag [(.sc (.int .i64 0)), (.sc (.int .i64 0)), (.sc (.int .i64 0)), (.ls (some true) 1 []), (.ls (some true) 1 [])])⟩, ⟨none, .mv 5 (.c (.sc (.int .i64 0)))⟩]) ((.seq ((.seq (.reg false [⟨none, .ld 6 true 2 (.t 2)⟩, ⟨none, .call (some 7) f1 [(.t 6), (.t 3)]⟩, ⟨none, .un 8 .not (.t 7)⟩]) (.cond (.t 8) ((.seq (.reg false [⟨none, .bld 9 (.ag [(.sc (.int .i64 0)), (.sc (.int .i64 0)), (.sc (.int .i64 0)), (.ls (some true) 1 []), (.ls (some true) 1 [])]) []⟩, ⟨none, .st 5 (.t 4) (.t 9)⟩, ⟨none, .mv 5 (.c (.sc (.int .i64 1)))⟩]) (.ret))) (.skip)))) ((.seq ((.seq (.reg false [⟨none, .fa 10 0 (.t 3)⟩, ⟨none, .ld 11 false 1 (.t 10)⟩, ⟨none, .len 12 (.t 11)⟩, ⟨none, .bin 13 .gtr (.t 12) (.c (.sc (.int .i64 8)))⟩]) (.cond (.t 13) ((.seq (.reg false [⟨none, .bld 14 (.ag [(.sc (.int .i64 0)), (.sc (.int .i64 0)), (.sc (.int .i64 0)), (.ls (some true) 1 []), (.ls (some true) 1 [])]) []⟩, ⟨none, .st 5 (.t 4) (.t 14)⟩, ⟨none, .mv 5 (.c (.sc (.int .i64 3)))⟩]) (.ret))) (.skip)))) ((.seq (.reg false [⟨none, .ld 15 true 2 (.t 2)⟩, ⟨none, .call (some 16) f2 [(.t 15), (.t 3)]⟩, ⟨none, .st 5 (.t 4) (.t 16)⟩, ⟨none, .mv 5 (.c (.sc (.int .i64 0)))⟩]) (.ret))))))))
def K_spWordModel (P : Program) (fno : Nat) : Prop := ∀ (g : Int × Int) (w : Wo), AF P fno [eG g, eWo w] (.tup ([.own (eM (wordR g w).1), .own (eI (wordR g w).2)]))
theorem a_spWordModel {P : Program} (hm : P.follows .mixedOrders = true) {g f1 f2 : Nat} (hr : resF P g = some (17, k_spWordModel f1 f2, [.c 4 5 true, .t 5])) (hc1 : K_l01Word P f1) (hc2 : K_l05WordModel P f2) : K_spWordModel P g := by
  intro g w
  obtain ⟨w1, w2⟩ := w
  refine af_of_res hr hm rfl fun hb => ?_
  simp +contextual -implicitDefEqProofs only [k_spWordModel, at0, D.put, D.cells, D.size, D.sizeL, D.isAg, modeOf, noPtrs, List.length_map, eWo, eG, eM, eS, eI, eB, D.sub, Int.cast_ofNat_Int, Int.reduceLT, Int.reduceLE, Int.le_refl, Int.reduceBEq, Int.reduceEq, beq_self_eq_true, Int.reduceToNat, bne, Bool.not_true, Bool.not_false, Bool.true_and, Bool.false_and, Bool.and_true, Bool.and_false, Bool.true_or, Bool.false_or, Bool.or_true, Bool.or_false, go_sem, ↓reduceIte, Nat.reduceEqDiff, Nat.reduceAdd, Nat.reduceLeDiff, Nat.reduceMul, Nat.reduceBEq, Nat.reduceBneDiff, Nat.reduceLT, Nat.reduceSub, Bool.false_eq_true, List.cons_append, List.nil_append, Int.ofNat_lt, Int.natCast_nonneg]
  refine callQ_self (ds := [eG g, .pt (eWo (w1, w2)) 0]) (by rfl) (hc1 g (w1, w2)) ?_
  by_cases ho : okG g = true ∧ okWo g (w1, w2) = true
  · by_cases h8 : w1.2.length > 8
    · have h8' : (8 : Int) < (w1.2.length : Int) := by omega
      rw [show wordR g (w1, w2) = (zeroMo, 3) by simp [wordR, ho, h8]]
      simp +contextual -implicitDefEqProofs only [ho.1, ho.2, h8', zeroMo, at0, gt_iff_lt, D.put, D.cells, D.size, D.sizeL, D.isAg, modeOf, noPtrs, List.length_map, eWo, eG, eM, eS, eI, eB, D.sub, Int.cast_ofNat_Int, Int.reduceLT, Int.reduceLE, Int.le_refl, Int.reduceBEq, Int.reduceEq, beq_self_eq_true, Int.reduceToNat, bne, Bool.not_true, Bool.not_false, Bool.true_and, Bool.false_and, Bool.and_true, Bool.and_false, Bool.true_or, Bool.false_or, Bool.or_true, Bool.or_false, go_sem, ↓reduceIte, Nat.reduceEqDiff, Nat.reduceAdd, Nat.reduceLeDiff, Nat.reduceMul, Nat.reduceBEq, Nat.reduceBneDiff, Nat.reduceLT, Nat.reduceSub, Bool.false_eq_true, List.cons_append, List.nil_append, Int.ofNat_lt, Int.natCast_nonneg]
    · have h8' : ¬ (8 : Int) < (w1.2.length : Int) := by omega
      have hW := wm_ok ho.1 ho.2 h8
      rw [show wordR g (w1, w2) = (wordMo g (w1, w2) w1.2.length, 0) by simp [wordR, ho, h8]]
      have hwm := hc2 g (w1, w2) w1.2.length hW
      have hS := word_eq (g := g) (w := (w1, w2)) (n := w1.2.length)
      rw [hS] at hwm
      simp only [eM, eS, eI, eG] at hS
      simp +contextual -implicitDefEqProofs only [ho.1, ho.2, h8', at0, gt_iff_lt, D.put, D.cells, D.size, D.sizeL, D.isAg, modeOf, noPtrs, List.length_map, eWo, eG, eM, eS, eI, eB, D.sub, Int.cast_ofNat_Int, Int.reduceLT, Int.reduceLE, Int.le_refl, Int.reduceBEq, Int.reduceEq, beq_self_eq_true, Int.reduceToNat, bne, Bool.not_true, Bool.not_false, Bool.true_and, Bool.false_and, Bool.and_true, Bool.and_false, Bool.true_or, Bool.false_or, Bool.or_true, Bool.or_false, go_sem, ↓reduceIte, Nat.reduceEqDiff, Nat.reduceAdd, Nat.reduceLeDiff, Nat.reduceMul, Nat.reduceBEq, Nat.reduceBneDiff, Nat.reduceLT, Nat.reduceSub, Bool.false_eq_true, List.cons_append, List.nil_append, Int.ofNat_lt, Int.natCast_nonneg]
      refine callQ_self (ds := [eG g, .pt (eWo (w1, w2)) 0]) (by rfl) hwm ?_
      simp +contextual -implicitDefEqProofs only [at0, D.put, D.cells, D.size, D.sizeL, D.isAg, modeOf, noPtrs, List.length_map, eWo, eG, eM, eS, eI, eB, D.sub, Int.cast_ofNat_Int, Int.reduceLT, Int.reduceLE, Int.le_refl, Int.reduceBEq, Int.reduceEq, beq_self_eq_true, Int.reduceToNat, bne, Bool.not_true, Bool.not_false, Bool.true_and, Bool.false_and, Bool.and_true, Bool.and_false, Bool.true_or, Bool.false_or, Bool.or_true, Bool.or_false, go_sem, ↓reduceIte, Nat.reduceEqDiff, Nat.reduceAdd, Nat.reduceLeDiff, Nat.reduceMul, Nat.reduceBEq, Nat.reduceBneDiff, Nat.reduceLT, Nat.reduceSub, Bool.false_eq_true, List.cons_append, List.nil_append, Int.ofNat_lt, Int.natCast_nonneg]
      exact D.Le.of_eq hS.symm
  · rw [show wordR g (w1, w2) = (zeroMo, 1) by simp [wordR, ho]]
    have ho' : (okG g && okWo g (w1, w2)) = false := by rw [Bool.eq_false_iff]; simpa using ho
    simp +contextual -implicitDefEqProofs only [ho', zeroMo, at0, D.put, D.cells, D.size, D.sizeL, D.isAg, modeOf, noPtrs, List.length_map, eWo, eG, eM, eS, eI, eB, D.sub, Int.cast_ofNat_Int, Int.reduceLT, Int.reduceLE, Int.le_refl, Int.reduceBEq, Int.reduceEq, beq_self_eq_true, Int.reduceToNat, bne, Bool.not_true, Bool.not_false, Bool.true_and, Bool.false_and, Bool.and_true, Bool.and_false, Bool.true_or, Bool.false_or, Bool.or_true, Bool.or_false, go_sem, ↓reduceIte, Nat.reduceEqDiff, Nat.reduceAdd, Nat.reduceLeDiff, Nat.reduceMul, Nat.reduceBEq, Nat.reduceBneDiff, Nat.reduceLT, Nat.reduceSub, Bool.false_eq_true, List.cons_append, List.nil_append, Int.ofNat_lt, Int.natCast_nonneg]

def k_wordModel1 : RC := (.seq (.reg false [⟨none, .mv 6 (.c (.sc (.bool false)))⟩]) ((.seq (.reg true [⟨none, .mv 7 (.t 1)⟩, ⟨none, .mv 8 (.t 0)⟩, ⟨none, .bin 9 .add (.t 8) (.c (.sc (.int .i64 1)))⟩, ⟨none, .bin 10 .eql (.t 7) (.t 9)⟩, ⟨none, .mv 11 (.t 10)⟩, ⟨some (11, true), .fa 12 1 (.t 2)⟩, ⟨some (11, true), .ld 13 false 1 (.t 12)⟩, ⟨some (11, true), .mv 14 (.t 0)⟩, ⟨some (11, true), .ia 15 1 (.t 13) (.t 14)⟩, ⟨some (11, true), .ld 16 false 1 (.t 15)⟩, ⟨some (11, true), .ld 17 false 1 (.t 3)⟩, ⟨some (11, true), .bin 18 .eql (.t 16) (.t 17)⟩, ⟨none, .pick 19 (.t 11) (.t 18) (.c (.sc (.bool false)))⟩, ⟨none, .mv 6 (.t 19)⟩]) (.ret))))
def K_wordModel1 (P : Program) (fno : Nat) : Prop := ∀ (g : Int × Int) (w : Wo) (n a x y : Nat) (hW : WmOk g w n) (hx : x < n) (hy : y < n), AF P fno [eI x, eI y, .pt (eWo w) 0, .pt (eI a) 0] (.own (eB (wRel w a x y)))
theorem a_wordModel1 {P : Program} (hm : P.follows .mixedOrders = true) {g : Nat} (hr : resF P g = some (20, k_wordModel1, [.t 6])) : K_wordModel1 P g := by
  intro g w n a x y hW hx hy
  have hx' : x < w.1.2.length := by rw [hW.la]; exact hx
  have hlb := hW.lb
  have n8 := hW.n8
  have w1' : IntKind.i64.wrap ((x : Int) + 1) = ((x + 1 : Nat) : Int) := by rw [wrap_i64 (by omega) (by omega)]; omega
  obtain ⟨w1, w2⟩ := w
  simp only at hlb
  refine af_of_res hr hm rfl fun hb => ?_
  cases hv : (y == x + 1)
  · rw [show wRel (w1, w2) a x y = false by simp [wRel, hv]]
    simp +contextual -implicitDefEqProofs only [k_wordModel1, at0, w1', nat_beq, hv, D.put, D.cells, D.size, D.sizeL, D.isAg, modeOf, noPtrs, List.length_map, eWo, eG, eM, eS, eI, eB, D.sub, Int.cast_ofNat_Int, Int.reduceLT, Int.reduceLE, Int.le_refl, Int.reduceBEq, Int.reduceEq, beq_self_eq_true, Int.reduceToNat, bne, Bool.not_true, Bool.not_false, Bool.true_and, Bool.false_and, Bool.and_true, Bool.and_false, Bool.true_or, Bool.false_or, Bool.or_true, Bool.or_false, go_sem, ↓reduceIte, Nat.reduceEqDiff, Nat.reduceAdd, Nat.reduceLeDiff, Nat.reduceMul, Nat.reduceBEq, Nat.reduceBneDiff, Nat.reduceLT, Nat.reduceSub, Bool.false_eq_true, List.cons_append, List.nil_append, Int.ofNat_lt, Int.natCast_nonneg]
  · have hy1 : y = x + 1 := by simpa using hv
    have hx2 : x < w2.2.length := by omega
    have e2 := at_mapD (f := eI) (d := 0) hx2
    rw [show wRel (w1, w2) a x y = (w2.2.getD x 0 == (a : Int)) by simp [wRel, hv]]
    simp +contextual -implicitDefEqProofs only [k_wordModel1, at0, w1', nat_beq, hv, e2, hx2, Int.toNat_natCast, D.put, D.cells, D.size, D.sizeL, D.isAg, modeOf, noPtrs, List.length_map, eWo, eG, eM, eS, eI, eB, D.sub, Int.cast_ofNat_Int, Int.reduceLT, Int.reduceLE, Int.le_refl, Int.reduceBEq, Int.reduceEq, beq_self_eq_true, Int.reduceToNat, bne, Bool.not_true, Bool.not_false, Bool.true_and, Bool.false_and, Bool.and_true, Bool.and_false, Bool.true_or, Bool.false_or, Bool.or_true, Bool.or_false, go_sem, ↓reduceIte, Nat.reduceEqDiff, Nat.reduceAdd, Nat.reduceLeDiff, Nat.reduceMul, Nat.reduceBEq, Nat.reduceBneDiff, Nat.reduceLT, Nat.reduceSub, Bool.false_eq_true, List.cons_append, List.nil_append, Int.ofNat_lt, Int.natCast_nonneg]

def k_wordModel (f1 f2 : Nat) : RC := (.seq (.reg false [⟨none, .box 2 2 (.t 0)⟩, ⟨none, .box 3 2 (.t 1)⟩, ⟨none, .zer 4 5 (.ag [(.sc (.int .i64 0)), (.sc (.int .i64 0)), (.sc (.int .i64 0)), (.ls (some true) 1 []), (.ls (some true) 1 [])])⟩, ⟨none, .mv 5 (.c (.sc (.int .i64 0)))⟩]) ((.seq (.reg false [⟨none, .fa 13 0 (.t 3)⟩, ⟨none, .ld 14 false 1 (.t 13)⟩, ⟨none, .len 15 (.t 14)⟩, ⟨none, .mv 6 (.t 15)⟩]) ((.seq ((.seq (.reg false [⟨none, .mv 16 (.t 6)⟩, ⟨none, .bin 17 .gtr (.t 16) (.c (.sc (.int .i64 8)))⟩]) (.cond (.t 17) ((.seq (.reg false [⟨none, .bld 18 (.ag [(.sc (.int .i64 0)), (.sc (.int .i64 0)), (.sc (.int .i64 0)), (.ls (some true) 1 []), (.ls (some true) 1 [])]) []⟩, ⟨none, .st 5 (.t 4) (.t 18)⟩, ⟨none, .mv 5 (.c (.sc (.int .i64 3)))⟩]) (.ret))) (.skip)))) ((.seq (.reg false [⟨none, .ld 19 true 2 (.t 2)⟩, ⟨none, .mv 20 (.t 6)⟩, ⟨none, .bld 21 (.ag [(.sc (.int .i64 0)), (.sc (.int .i64 0)), (.sc (.int .i64 0)), (.ls (some true) 1 []), (.ls (some true) 1 [])]) [(0, 2, (.t 19)), (2, 1, (.t 20))]⟩, ⟨none, .zer 7 5 (.ag [(.sc (.int .i64 0)), (.sc (.int .i64 0)), (.sc (.int .i64 0)), (.ls (some true) 1 []), (.ls (some true) 1 [])])⟩, ⟨none, .st 5 (.t 7) (.t 21)⟩]) ((.seq ((.seq (.reg false [⟨none, .fa 22 0 (.t 2)⟩, ⟨none, .ld 23 false 1 (.t 22)⟩, ⟨none, .mv 24 (.c (.sc (.int .i64 0)))⟩]) (.blk 0 (.loop ((.seq (.reg false [⟨none, .bin 25 .lss (.t 24) (.t 23)⟩]) ((.seq (.cond (.t 25) (.skip) (.exit 0)) ((.seq (.blk 1 ((.seq (.reg false [⟨none, .mv 26 (.t 24)⟩, ⟨none, .mv 8 (.t 26)⟩]) ((.seq (.reg false [⟨none, .bs 27 1 (.sc (.bool false)) 0 []⟩, ⟨none, .mv 9 (.t 27)⟩]) ((.seq ((.seq (.reg false [⟨none, .fa 28 0 (.t 3)⟩, ⟨none, .ld 29 false 1 (.t 28)⟩, ⟨none, .len 30 (.t 29)⟩, ⟨none, .mv 31 (.c (.sc (.int .i64 0)))⟩]) (.blk 2 (.loop ((.seq (.reg false [⟨none, .bin 32 .lss (.t 31) (.t 30)⟩]) ((.seq (.cond (.t 32) (.skip) (.exit 2)) ((.seq (.blk 3 ((.seq (.reg false [⟨none, .ia 33 1 (.t 29) (.t 31)⟩, ⟨none, .ld 34 false 1 (.t 33)⟩, ⟨none, .mv 11 (.t 34)⟩]) (.reg false [⟨none, .mv 35 (.t 9)⟩, ⟨none, .mv 36 (.t 11)⟩, ⟨none, .mv 37 (.t 8)⟩, ⟨none, .bin 38 .shr (.t 36) (.t 37)⟩, ⟨none, .bin 39 .and (.t 38) (.c (.sc (.int .i64 1)))⟩, ⟨none, .bin 40 .eql (.t 39) (.c (.sc (.int .i64 1)))⟩, ⟨none, .bs 41 1 (.sc (.bool false)) 1 [(0, (.t 40))]⟩, ⟨none, .app 42 1 1 (.t 35) (.t 41)⟩, ⟨none, .mv 9 (.t 42)⟩])))) (.reg false [⟨none, .bin 43 .add (.t 31) (.c (.sc (.int .i64 1)))⟩, ⟨none, .mv 31 (.t 43)⟩]))))))))))) (.reg false [⟨none, .fa 44 3 (.t 7)⟩, ⟨none, .ld 45 false 1 (.t 44)⟩, ⟨none, .mv 46 (.t 9)⟩, ⟨none, .bs 47 1 (.ls (some true) 1 []) 1 [(0, (.t 46))]⟩, ⟨none, .app 48 1 24 (.t 45) (.t 47)⟩, ⟨none, .fa 49 3 (.t 7)⟩, ⟨none, .st 1 (.t 49) (.t 48)⟩])))))))) (.reg false [⟨none, .bin 50 .add (.t 24) (.c (.sc (.int .i64 1)))⟩, ⟨none, .mv 24 (.t 50)⟩]))))))))))) ((.seq ((.seq (.reg false [⟨none, .fa 51 1 (.t 2)⟩, ⟨none, .ld 52 false 1 (.t 51)⟩, ⟨none, .mv 53 (.c (.sc (.int .i64 0)))⟩]) (.blk 4 (.loop ((.seq (.reg false [⟨none, .bin 54 .lss (.t 53) (.t 52)⟩]) ((.seq (.cond (.t 54) (.skip) (.exit 4)) ((.seq (.blk 5 ((.seq (.reg false [⟨none, .mv 55 (.t 53)⟩, ⟨none, .zer 12 1 (.sc (.int .i64 0))⟩, ⟨none, .st 1 (.t 12) (.t 55)⟩]) (.reg true [⟨none, .fa 56 4 (.t 7)⟩, ⟨none, .ld 57 false 1 (.t 56)⟩, ⟨none, .mv 58 (.t 6)⟩, ⟨none, .mkf 59 f2 [(.t 3), (.t 12)]⟩, ⟨none, .call (some 60) f1 [(.t 58), (.t 59)]⟩, ⟨none, .bs 61 1 (.ls (some true) 1 []) 1 [(0, (.t 60))]⟩, ⟨none, .app 62 1 24 (.t 57) (.t 61)⟩, ⟨none, .fa 63 4 (.t 7)⟩, ⟨none, .st 1 (.t 63) (.t 62)⟩])))) (.reg false [⟨none, .bin 64 .add (.t 53) (.c (.sc (.int .i64 1)))⟩, ⟨none, .mv 53 (.t 64)⟩]))))))))))) ((.seq (.reg false [⟨none, .ld 65 true 5 (.t 7)⟩, ⟨none, .st 5 (.t 4) (.t 65)⟩, ⟨none, .mv 5 (.c (.sc (.int .i64 0)))⟩]) (.ret))))))))))))))
def K_wordModel (P : Program) (fno : Nat) : Prop := ∀ (g : Int × Int) (w : Wo) (ho : okG g = true ∧ okWo g w = true), AF P fno [eG g, eWo w] (.tup ([.own (eM (wordR g w).1), .own (eI (wordR g w).2)]))
theorem a_wordModel {P : Program} (hm : P.follows .mixedOrders = true) {g f1 f2 : Nat} (hr : resF P g = some (66, k_wordModel f1 f2, [.c 4 5 true, .t 5])) (hc1 : K_tableB P f1) (hc2 : K_wordModel1 P f2) : K_wordModel P g := by
  intro g w ho
  obtain ⟨w1, w2⟩ := w
  by_cases h8 : w1.2.length > 8
  · have h8' : (8 : Int) < (w1.2.length : Int) := by omega
    rw [show wordR g (w1, w2) = (zeroMo, 3) by simp [wordR, ho, h8]]
    refine af_of_res hr hm rfl fun hb => ?_
    simp +contextual -implicitDefEqProofs only [k_wordModel, h8', zeroMo, at0, gt_iff_lt, D.put, D.cells, D.size, D.sizeL, D.isAg, modeOf, noPtrs, List.length_map, eWo, eG, eM, eS, eI, eB, D.sub, Int.cast_ofNat_Int, Int.reduceLT, Int.reduceLE, Int.le_refl, Int.reduceBEq, Int.reduceEq, beq_self_eq_true, Int.reduceToNat, bne, Bool.not_true, Bool.not_false, Bool.true_and, Bool.false_and, Bool.and_true, Bool.and_false, Bool.true_or, Bool.false_or, Bool.or_true, Bool.or_false, go_sem, ↓reduceIte, Nat.reduceEqDiff, Nat.reduceAdd, Nat.reduceLeDiff, Nat.reduceMul, Nat.reduceBEq, Nat.reduceBneDiff, Nat.reduceLT, Nat.reduceSub, Bool.false_eq_true, List.cons_append, List.nil_append, Int.ofNat_lt, Int.natCast_nonneg]
  have hW := wm_ok ho.1 ho.2 h8
  rw [show wordR g (w1, w2) = (wordMo g (w1, w2) w1.2.length, 0) by simp [wordR, ho, h8]]
  generalize hn : w1.2.length = n at hW
  have t0 := hW.t0
  have t1 := hW.t1
  have a0 := hW.a0
  have a1 := hW.a1
  have n1 := hW.n1
  have n8 := hW.n8
  have la := hW.la
  have lb := hW.lb
  simp only at la lb
  have hr1 : (rngL g.1).length = g.1.toNat := rngL_len
  have hr2 : (rngL g.2).length = g.2.toNat := rngL_len
  have c1 : ((g.1.toNat : Nat) : Int) = g.1 := Int.toNat_of_nonneg t0
  have c2 : ((g.2.toNat : Nat) : Int) = g.2 := Int.toNat_of_nonneg a0
  have hS := word_eq (g := g) (w := (w1, w2)) (n := n)
  simp only [eM, eS, eI, eG] at hS
  refine af_of_res hr hm rfl fun hb => ?_
  have h8' : ¬ (8 : Int) < (n : Int) := by omega
  simp +contextual -implicitDefEqProofs only [k_wordModel, la, h8', gt_iff_lt, at0, D.put, D.cells, D.size, D.sizeL, D.isAg, modeOf, noPtrs, List.length_map, eWo, eG, eM, eS, eI, eB, D.sub, Int.cast_ofNat_Int, Int.reduceLT, Int.reduceLE, Int.le_refl, Int.reduceBEq, Int.reduceEq, beq_self_eq_true, Int.reduceToNat, bne, Bool.not_true, Bool.not_false, Bool.true_and, Bool.false_and, Bool.and_true, Bool.and_false, Bool.true_or, Bool.false_or, Bool.or_true, Bool.or_false, go_sem, ↓reduceIte, Nat.reduceEqDiff, Nat.reduceAdd, Nat.reduceLeDiff, Nat.reduceMul, Nat.reduceBEq, Nat.reduceBneDiff, Nat.reduceLT, Nat.reduceSub, Bool.false_eq_true, List.cons_append, List.nil_append, Int.ofNat_lt, Int.natCast_nonneg]
  refine vc_onU (α := Nat) [8, 9, 11, 24, 25, 26, 27, 28, 29, 30, 31, 32, 33, 34, 35, 36, 37, 38, 39, 40, 41, 42, 43, 44, 45, 46, 47, 48, 49, 50] (fun i => [(24, .im none (.sc (.int .i64 i)))]) (fun i => [(7, .ar true (some false) 5 [.ag [.sc (.int .i64 g.1), .sc (.int .i64 g.2), .sc (.int .i64 n), .ls (nnL ((rngL g.1).take i)) 1 (((rngL g.1).take i).map (wTest (w1, w2) n)), .ls (some true) 1 []]]), (4, .ar true (some false) 5 [.ag [.sc (.int .i64 0), .sc (.int .i64 0), .sc (.int .i64 0), .ls (some true) 1 [], .ls (some true) 1 []]]), (3, .ar false (some false) 2 [.ag [.ls w1.1 1 (w1.2.map eI), .ls w2.1 1 (w2.2.map eI)]]), (2, .ar false (some false) 2 [.ag [.sc (.int .i64 g.1), .sc (.int .i64 g.2)]])]) (fun i => i ≤ (rngL g.1).length) (fun i => (rngL g.1).length - i) 0 (Ent.to [] (by simp only [go_sem, ↓reduceIte, Nat.reduceEqDiff, Nat.reduceBEq, Nat.reduceBneDiff, Bool.false_eq_true]; rfl) rfl (by simp [nnL]) (by rfl) (by simp only [subEnv, go_sem, ↓reduceIte, Nat.reduceEqDiff, Nat.reduceBEq, keep, memN, Bool.or_false, Bool.false_or, Bool.or_self, Bool.false_eq_true] <;> simp)) (Nat.zero_le _) ?_
  intro i hi0
  by_cases hi : i < (rngL g.1).length
  · have hi' : (i : Int) < g.1 := by omega
    have e1 := rngL_at hi
    simp +contextual -implicitDefEqProofs only [hi', la, at0, D.put, D.cells, D.size, D.sizeL, D.isAg, modeOf, noPtrs, List.length_map, eWo, eG, eM, eS, eI, eB, D.sub, Int.cast_ofNat_Int, Int.reduceLT, Int.reduceLE, Int.le_refl, Int.reduceBEq, Int.reduceEq, beq_self_eq_true, Int.reduceToNat, bne, Bool.not_true, Bool.not_false, Bool.true_and, Bool.false_and, Bool.and_true, Bool.and_false, Bool.true_or, Bool.false_or, Bool.or_true, Bool.or_false, go_sem, ↓reduceIte, Nat.reduceEqDiff, Nat.reduceAdd, Nat.reduceLeDiff, Nat.reduceMul, Nat.reduceBEq, Nat.reduceBneDiff, Nat.reduceLT, Nat.reduceSub, Bool.false_eq_true, List.cons_append, List.nil_append, Int.ofNat_lt, Int.natCast_nonneg]
    refine vc_onU (α := Nat) [9, 11, 27, 31, 32, 33, 34, 35, 36, 37, 38, 39, 40, 41, 42, 43] (fun x => [(31, .im none (.sc (.int .i64 x))), (9, .sm 27 0 x)]) (fun x => [(27, .ar true (some false) 1 (rRow x (wTestF (w1, w2) i))), (7, .ar true (some false) 5 [.ag [.sc (.int .i64 g.1), .sc (.int .i64 g.2), .sc (.int .i64 n), .ls (nnL ((rngL g.1).take i)) 1 (((rngL g.1).take i).map (wTest (w1, w2) n)), .ls (some true) 1 []]]), (4, .ar true (some false) 5 [.ag [.sc (.int .i64 0), .sc (.int .i64 0), .sc (.int .i64 0), .ls (some true) 1 [], .ls (some true) 1 []]]), (3, .ar false (some false) 2 [.ag [.ls w1.1 1 (w1.2.map eI), .ls w2.1 1 (w2.2.map eI)]]), (2, .ar false (some false) 2 [.ag [.sc (.int .i64 g.1), .sc (.int .i64 g.2)]])]) (fun x => x ≤ n) (fun x => n - x) 0 (Ent.to [] (by simp only [go_sem, ↓reduceIte, Nat.reduceEqDiff, Nat.reduceBEq, Nat.reduceBneDiff, Bool.false_eq_true]; rfl) rfl (by simp [rRow_zero]) (by rfl) (by simp only [subEnv, go_sem, ↓reduceIte, Nat.reduceEqDiff, Nat.reduceBEq, keep, memN, Bool.or_false, Bool.false_or, Bool.or_self, Bool.false_eq_true] <;> simp)) (Nat.zero_le _) ?_
    intro x hx0
    by_cases hx : x < n
    · have hx' : x < w1.2.length := by omega
      have e2 := at_mapD (f := eI) (d := 0) hx'
      simp +contextual -implicitDefEqProofs only [hx, hx', e2, la, rRow_len, at0, Int.toNat_natCast, D.put, D.cells, D.size, D.sizeL, D.isAg, modeOf, noPtrs, List.length_map, eWo, eG, eM, eS, eI, eB, D.sub, Int.cast_ofNat_Int, Int.reduceLT, Int.reduceLE, Int.le_refl, Int.reduceBEq, Int.reduceEq, beq_self_eq_true, Int.reduceToNat, bne, Bool.not_true, Bool.not_false, Bool.true_and, Bool.false_and, Bool.and_true, Bool.and_false, Bool.true_or, Bool.false_or, Bool.or_true, Bool.or_false, go_sem, ↓reduceIte, Nat.reduceEqDiff, Nat.reduceAdd, Nat.reduceLeDiff, Nat.reduceMul, Nat.reduceBEq, Nat.reduceBneDiff, Nat.reduceLT, Nat.reduceSub, Bool.false_eq_true, List.cons_append, List.nil_append, Int.ofNat_lt, Int.natCast_nonneg]
      refine ⟨rfl, ⟨by (try simp); omega, by unfold maxEl; (try simp); omega, by simp [D.size]⟩, x + 1, by omega, by omega, ?_⟩
      rw [wrap_i64 (by omega) (by omega)]
      exact Ent.to [] (by simp only [go_sem, ↓reduceIte, Nat.reduceEqDiff, Nat.reduceBEq, Nat.reduceBneDiff, Bool.false_eq_true]; rfl) rfl (by rw [rRow_succ]; exact fun _ h => h) (by rfl) (by simp only [subEnv, go_sem, ↓reduceIte, Nat.reduceEqDiff, Nat.reduceBEq, keep, memN, Bool.or_false, Bool.false_or, Bool.or_self, Bool.false_eq_true] <;> simp)
    · obtain rfl : x = n := by omega
      have hsm : (rngL g.1).length ≤ 1000 := by omega
      simp +contextual -implicitDefEqProofs only [hx, la, rRow_len, at0, D.put, D.cells, D.size, D.sizeL, D.isAg, modeOf, noPtrs, List.length_map, eWo, eG, eM, eS, eI, eB, D.sub, Int.cast_ofNat_Int, Int.reduceLT, Int.reduceLE, Int.le_refl, Int.reduceBEq, Int.reduceEq, beq_self_eq_true, Int.reduceToNat, bne, Bool.not_true, Bool.not_false, Bool.true_and, Bool.false_and, Bool.and_true, Bool.and_false, Bool.true_or, Bool.false_or, Bool.or_true, Bool.or_false, go_sem, ↓reduceIte, Nat.reduceEqDiff, Nat.reduceAdd, Nat.reduceLeDiff, Nat.reduceMul, Nat.reduceBEq, Nat.reduceBneDiff, Nat.reduceLT, Nat.reduceSub, Bool.false_eq_true, List.cons_append, List.nil_append, Int.ofNat_lt, Int.natCast_nonneg]
      refine ⟨rfl, ⟨by (try simp); omega, by unfold maxEl; (try simp); omega, by simp [D.size]⟩, i + 1, by omega, by omega, ?_⟩
      rw [wrap_i64 (by omega) (by omega)]
      exact Ent.to [] (by simp only [go_sem, ↓reduceIte, Nat.reduceEqDiff, Nat.reduceBEq, Nat.reduceBneDiff, Bool.false_eq_true]; rfl) rfl (by simp [nnL_take hi, map_take hi, wTest, e1]) (by rfl) (by simp only [subEnv, go_sem, ↓reduceIte, Nat.reduceEqDiff, Nat.reduceBEq, keep, memN, Bool.or_false, Bool.false_or, Bool.or_self, Bool.false_eq_true] <;> simp)
  · rw [List.take_of_length_le (show (rngL g.1).length ≤ i by omega)]
    have hi' : ¬ (i : Int) < g.1 := by omega
    simp +contextual -implicitDefEqProofs only [hi', at0, D.put, D.cells, D.size, D.sizeL, D.isAg, modeOf, noPtrs, List.length_map, eWo, eG, eM, eS, eI, eB, D.sub, Int.cast_ofNat_Int, Int.reduceLT, Int.reduceLE, Int.le_refl, Int.reduceBEq, Int.reduceEq, beq_self_eq_true, Int.reduceToNat, bne, Bool.not_true, Bool.not_false, Bool.true_and, Bool.false_and, Bool.and_true, Bool.and_false, Bool.true_or, Bool.false_or, Bool.or_true, Bool.or_false, go_sem, ↓reduceIte, Nat.reduceEqDiff, Nat.reduceAdd, Nat.reduceLeDiff, Nat.reduceMul, Nat.reduceBEq, Nat.reduceBneDiff, Nat.reduceLT, Nat.reduceSub, Bool.false_eq_true, List.cons_append, List.nil_append, Int.ofNat_lt, Int.natCast_nonneg]
    refine vc_onU (α := Nat) [12, 53, 54, 55, 56, 57, 58, 60, 61, 62, 63, 64] (fun i => [(53, .im none (.sc (.int .i64 i)))]) (fun i => [(7, .ar true (some false) 5 [.ag [.sc (.int .i64 g.1), .sc (.int .i64 g.2), .sc (.int .i64 n), .ls (nnL ((rngL g.1))) 1 (((rngL g.1)).map (wTest (w1, w2) n)), .ls (nnL ((rngL g.2).take i)) 1 (((rngL g.2).take i).map (wTab (w1, w2) n))]]), (4, .ar true (some false) 5 [.ag [.sc (.int .i64 0), .sc (.int .i64 0), .sc (.int .i64 0), .ls (some true) 1 [], .ls (some true) 1 []]]), (3, .ar false (some false) 2 [.ag [.ls w1.1 1 (w1.2.map eI), .ls w2.1 1 (w2.2.map eI)]]), (2, .ar false (some false) 2 [.ag [.sc (.int .i64 g.1), .sc (.int .i64 g.2)]])]) (fun i => i ≤ (rngL g.2).length) (fun i => (rngL g.2).length - i) 0 (Ent.to [] (by simp only [go_sem, ↓reduceIte, Nat.reduceEqDiff, Nat.reduceBEq, Nat.reduceBneDiff, Bool.false_eq_true]; rfl) rfl (by simp [nnL]) (by rfl) (by simp only [subEnv, go_sem, ↓reduceIte, Nat.reduceEqDiff, Nat.reduceBEq, keep, memN, Bool.or_false, Bool.false_or, Bool.or_self, Bool.false_eq_true] <;> simp)) (Nat.zero_le _) ?_
    intro i hi0
    by_cases hi : i < (rngL g.2).length
    · have hi' : (i : Int) < g.2 := by omega
      have e1 := rngL_at hi
      have hsm : (rngL g.2).length ≤ 1000 := by omega
      simp +contextual -implicitDefEqProofs only [hi', at0, D.put, D.cells, D.size, D.sizeL, D.isAg, modeOf, noPtrs, List.length_map, eWo, eG, eM, eS, eI, eB, D.sub, Int.cast_ofNat_Int, Int.reduceLT, Int.reduceLE, Int.le_refl, Int.reduceBEq, Int.reduceEq, beq_self_eq_true, Int.reduceToNat, bne, Bool.not_true, Bool.not_false, Bool.true_and, Bool.false_and, Bool.and_true, Bool.and_false, Bool.true_or, Bool.false_or, Bool.or_true, Bool.or_false, go_sem, ↓reduceIte, Nat.reduceEqDiff, Nat.reduceAdd, Nat.reduceLeDiff, Nat.reduceMul, Nat.reduceBEq, Nat.reduceBneDiff, Nat.reduceLT, Nat.reduceSub, Bool.false_eq_true, List.cons_append, List.nil_append, Int.ofNat_lt, Int.natCast_nonneg]
      refine callQ_self (ds := [eI n, .fn f2 [.pt (eWo (w1, w2)) 0, .pt (eI i) 0]]) (by rfl) (hc1 n f2 _ (wRel (w1, w2) i) (by omega) (fun x y hx hy => hc2 g (w1, w2) n i x y hW hx hy)) ?_
      rw [show ((some false, tabL n fun x => (some false, tabL n (wRel (w1, w2) i x))) : SL (SL Bool)) = rTab n (wRel (w1, w2) i) from rfl, rD_eq]
      simp +contextual -implicitDefEqProofs only [at0, D.put, D.cells, D.size, D.sizeL, D.isAg, modeOf, noPtrs, List.length_map, eWo, eG, eM, eS, eI, eB, D.sub, Int.cast_ofNat_Int, Int.reduceLT, Int.reduceLE, Int.le_refl, Int.reduceBEq, Int.reduceEq, beq_self_eq_true, Int.reduceToNat, bne, Bool.not_true, Bool.not_false, Bool.true_and, Bool.false_and, Bool.and_true, Bool.and_false, Bool.true_or, Bool.false_or, Bool.or_true, Bool.or_false, go_sem, ↓reduceIte, Nat.reduceEqDiff, Nat.reduceAdd, Nat.reduceLeDiff, Nat.reduceMul, Nat.reduceBEq, Nat.reduceBneDiff, Nat.reduceLT, Nat.reduceSub, Bool.false_eq_true, List.cons_append, List.nil_append, Int.ofNat_lt, Int.natCast_nonneg]
      refine ⟨rfl, ⟨by (try simp); omega, by unfold maxEl; (try simp); omega, by simp [D.size]⟩, i + 1, by omega, by omega, ?_⟩
      rw [wrap_i64 (by omega) (by omega)]
      exact Ent.to [12] (by simp only [go_sem, ↓reduceIte, Nat.reduceEqDiff, Nat.reduceBEq, Nat.reduceBneDiff, Bool.false_eq_true]; rfl) rfl (by simp [nnL_take hi, map_take hi, wTab, e1]) (by rfl) (by simp only [subEnv, go_sem, ↓reduceIte, Nat.reduceEqDiff, Nat.reduceBEq, keep, memN, Bool.or_false, Bool.false_or, Bool.or_self, Bool.false_eq_true] <;> simp)
    · rw [List.take_of_length_le (show (rngL g.2).length ≤ i by omega)]
      have hi' : ¬ (i : Int) < g.2 := by omega
      simp +contextual -implicitDefEqProofs only [hi', at0, D.put, D.cells, D.size, D.sizeL, D.isAg, modeOf, noPtrs, List.length_map, eWo, eG, eM, eS, eI, eB, D.sub, Int.cast_ofNat_Int, Int.reduceLT, Int.reduceLE, Int.le_refl, Int.reduceBEq, Int.reduceEq, beq_self_eq_true, Int.reduceToNat, bne, Bool.not_true, Bool.not_false, Bool.true_and, Bool.false_and, Bool.and_true, Bool.and_false, Bool.true_or, Bool.false_or, Bool.or_true, Bool.or_false, go_sem, ↓reduceIte, Nat.reduceEqDiff, Nat.reduceAdd, Nat.reduceLeDiff, Nat.reduceMul, Nat.reduceBEq, Nat.reduceBneDiff, Nat.reduceLT, Nat.reduceSub, Bool.false_eq_true, List.cons_append, List.nil_append, Int.ofNat_lt, Int.natCast_nonneg]
      exact D.Le.of_eq hS.symm

def k_imValidWord (f1 f2 : Nat) : RC := (.seq (.reg false [⟨none, .box 2 2 (.t 0)⟩, ⟨none, .box 3 2 (.t 1)⟩, ⟨none, .mv 4 (.c (.sc (.bool false)))⟩]) ((.seq (.reg false [⟨none, .ld 5 true 2 (.t 2)⟩, ⟨none, .call (some 6) f1 [(.t 5)]⟩, ⟨none, .mv 7 (.t 6)⟩, ⟨some (7, true), .ld 8 true 2 (.t 2)⟩, ⟨some (7, true), .ld 9 true 2 (.t 3)⟩, ⟨some (7, true), .call (some 10) f2 [(.t 8), (.t 9)]⟩, ⟨none, .pick 11 (.t 7) (.t 10) (.c (.sc (.bool false)))⟩, ⟨none, .mv 4 (.t 11)⟩]) (.ret))))
def K_imValidWord (P : Program) (fno : Nat) : Prop := ∀ (g : Int × Int) (w : Wo), AF P fno [eG g, eWo w] (.own (eB (okG g && okWo g w)))
theorem a_imValidWord {P : Program} (hm : P.follows .mixedOrders = true) {g f1 f2 : Nat} (hr : resF P g = some (12, k_imValidWord f1 f2, [.t 4])) (hc1 : K_validSig P f1) (hc2 : K_isWord P f2) : K_imValidWord P g := by
  intro g w
  refine af_of_res hr hm rfl fun hb => ?_
  simp +contextual -implicitDefEqProofs only [k_imValidWord, at0, D.put, D.cells, D.size, D.sizeL, D.isAg, modeOf, noPtrs, List.length_map, eWo, eG, eM, eS, eI, eB, D.sub, Int.cast_ofNat_Int, Int.reduceLT, Int.reduceLE, Int.le_refl, Int.reduceBEq, Int.reduceEq, beq_self_eq_true, Int.reduceToNat, bne, Bool.not_true, Bool.not_false, Bool.true_and, Bool.false_and, Bool.and_true, Bool.and_false, Bool.true_or, Bool.false_or, Bool.or_true, Bool.or_false, go_sem, ↓reduceIte, Nat.reduceEqDiff, Nat.reduceAdd, Nat.reduceLeDiff, Nat.reduceMul, Nat.reduceBEq, Nat.reduceBneDiff, Nat.reduceLT, Nat.reduceSub, Bool.false_eq_true, List.cons_append, List.nil_append, Int.ofNat_lt, Int.natCast_nonneg]
  refine callQ_self (ds := [eG g]) (by rfl) (hc1 g) ?_
  cases h1 : okG g
  · simp +contextual -implicitDefEqProofs only [bne, Bool.not_true, Bool.not_false, Bool.true_and, Bool.false_and, Bool.and_true, Bool.and_false, Bool.true_or, Bool.false_or, Bool.or_true, Bool.or_false, eB, go_sem, eI, ↓reduceIte, Nat.reduceEqDiff, Nat.reduceAdd, Nat.reduceLeDiff, Nat.reduceMul, Nat.reduceBEq, Nat.reduceBneDiff, Nat.reduceLT, Nat.reduceSub, Bool.false_eq_true, List.cons_append, List.nil_append, Int.ofNat_lt, List.length_map, Int.natCast_nonneg]
  · simp +contextual -implicitDefEqProofs only [bne, Bool.not_true, Bool.not_false, Bool.true_and, Bool.false_and, Bool.and_true, Bool.and_false, Bool.true_or, Bool.false_or, Bool.or_true, Bool.or_false, eB, at0, D.put, D.cells, D.size, D.sizeL, D.isAg, modeOf, noPtrs, List.length_map, eWo, eG, eM, eS, eI, D.sub, Int.cast_ofNat_Int, Int.reduceLT, Int.reduceLE, Int.le_refl, Int.reduceBEq, Int.reduceEq, beq_self_eq_true, Int.reduceToNat, go_sem, ↓reduceIte, Nat.reduceEqDiff, Nat.reduceAdd, Nat.reduceLeDiff, Nat.reduceMul, Nat.reduceBEq, Nat.reduceBneDiff, Nat.reduceLT, Nat.reduceSub, Bool.false_eq_true, List.cons_append, List.nil_append, Int.ofNat_lt, Int.natCast_nonneg]
    refine callQ_self (ds := [eG g, eWo w]) (by rfl) (hc2 g w h1) ?_
    simp +contextual -implicitDefEqProofs only [bne, Bool.not_true, Bool.not_false, Bool.true_and, Bool.false_and, Bool.and_true, Bool.and_false, Bool.true_or, Bool.false_or, Bool.or_true, Bool.or_false, eB, at0, D.put, D.cells, D.size, D.sizeL, D.isAg, modeOf, noPtrs, List.length_map, eWo, eG, eM, eS, eI, D.sub, Int.cast_ofNat_Int, Int.reduceLT, Int.reduceLE, Int.le_refl, Int.reduceBEq, Int.reduceEq, beq_self_eq_true, Int.reduceToNat, go_sem, ↓reduceIte, Nat.reduceEqDiff, Nat.reduceAdd, Nat.reduceLeDiff, Nat.reduceMul, Nat.reduceBEq, Nat.reduceBneDiff, Nat.reduceLT, Nat.reduceSub, Bool.false_eq_true, List.cons_append, List.nil_append, Int.ofNat_lt, Int.natCast_nonneg]

def k_imWordModel (f1 f2 : Nat) : RC := (.seq (.reg false [⟨none, .box 2 2 (.t 0)⟩, ⟨none, .box 3 2 (.t 1)⟩, ⟨none, .zer 4 5 (.ag [(.sc (.int .i64 0)), (.sc (.int .i64 0)), (.sc (.int .i64 0)), (.ls (some true) 1 []), (.ls (some true) 1 [])])⟩, ⟨none, .mv 5 (.c (.sc (.int .i64 0)))⟩]) ((.seq ((.seq (.reg false [⟨none, .ld 6 true 2 (.t 2)⟩, ⟨none, .ld 7 true 2 (.t 3)⟩, ⟨none, .call (some 8) f1 [(.t 6), (.t 7)]⟩, ⟨none, .un 9 .not (.t 8)⟩]) (.cond (.t 9) ((.seq (.reg false [⟨none, .bld 10 (.ag [(.sc (.int .i64 0)), (.sc (.int .i64 0)), (.sc (.int .i64 0)), (.ls (some true) 1 []), (.ls (some true) 1 [])]) []⟩, ⟨none, .st 5 (.t 4) (.t 10)⟩, ⟨none, .mv 5 (.c (.sc (.int .i64 1)))⟩]) (.ret))) (.skip)))) ((.seq (.reg false [⟨none, .ld 11 true 2 (.t 2)⟩, ⟨none, .ld 12 true 2 (.t 3)⟩, ⟨none, .call (some 13) f2 [(.t 11), (.t 12)]⟩, ⟨none, .ext 14 (.t 13) 0⟩, ⟨none, .ext 15 (.t 13) 1⟩, ⟨none, .st 5 (.t 4) (.t 14)⟩, ⟨none, .mv 5 (.t 15)⟩]) (.ret))))))
def K_imWordModel (P : Program) (fno : Nat) : Prop := ∀ (g : Int × Int) (w : Wo), AF P fno [eG g, eWo w] (.tup ([.own (eM (wordR g w).1), .own (eI (wordR g w).2)]))
theorem a_imWordModel {P : Program} (hm : P.follows .mixedOrders = true) {g f1 f2 : Nat} (hr : resF P g = some (16, k_imWordModel f1 f2, [.c 4 5 true, .t 5])) (hc1 : K_imValidWord P f1) (hc2 : K_wordModel P f2) : K_imWordModel P g := by
  intro g w
  have hz : eM zeroMo = .ag [.sc (.int .i64 0), .sc (.int .i64 0), .sc (.int .i64 0), .ls (some true) 1 [], .ls (some true) 1 []] := rfl
  refine af_of_res hr hm rfl fun hb => ?_
  simp +contextual -implicitDefEqProofs only [k_imWordModel, at0, D.put, D.cells, D.size, D.sizeL, D.isAg, modeOf, noPtrs, List.length_map, eWo, eG, eM, eS, eI, eB, D.sub, Int.cast_ofNat_Int, Int.reduceLT, Int.reduceLE, Int.le_refl, Int.reduceBEq, Int.reduceEq, beq_self_eq_true, Int.reduceToNat, bne, Bool.not_true, Bool.not_false, Bool.true_and, Bool.false_and, Bool.and_true, Bool.and_false, Bool.true_or, Bool.false_or, Bool.or_true, Bool.or_false, go_sem, ↓reduceIte, Nat.reduceEqDiff, Nat.reduceAdd, Nat.reduceLeDiff, Nat.reduceMul, Nat.reduceBEq, Nat.reduceBneDiff, Nat.reduceLT, Nat.reduceSub, Bool.false_eq_true, List.cons_append, List.nil_append, Int.ofNat_lt, Int.natCast_nonneg]
  refine callQ_self (ds := [eG g, eWo w]) (by rfl) (hc1 g w) ?_
  by_cases ho : okG g = true ∧ okWo g w = true
  · have hwm := hc2 g w ho
    simp only [eM, eS, eI] at hwm
    simp +contextual -implicitDefEqProofs only [ho.1, ho.2, at0, D.put, D.cells, D.size, D.sizeL, D.isAg, modeOf, noPtrs, List.length_map, eWo, eG, eM, eS, eI, eB, D.sub, Int.cast_ofNat_Int, Int.reduceLT, Int.reduceLE, Int.le_refl, Int.reduceBEq, Int.reduceEq, beq_self_eq_true, Int.reduceToNat, bne, Bool.not_true, Bool.not_false, Bool.true_and, Bool.false_and, Bool.and_true, Bool.and_false, Bool.true_or, Bool.false_or, Bool.or_true, Bool.or_false, go_sem, ↓reduceIte, Nat.reduceEqDiff, Nat.reduceAdd, Nat.reduceLeDiff, Nat.reduceMul, Nat.reduceBEq, Nat.reduceBneDiff, Nat.reduceLT, Nat.reduceSub, Bool.false_eq_true, List.cons_append, List.nil_append, Int.ofNat_lt, Int.natCast_nonneg]
    refine callQ_self (ds := [eG g, eWo w]) (by rfl) hwm ?_
    simp +contextual -implicitDefEqProofs only [at0, D.put, D.cells, D.size, D.sizeL, D.isAg, modeOf, noPtrs, List.length_map, eWo, eG, eM, eS, eI, eB, D.sub, Int.cast_ofNat_Int, Int.reduceLT, Int.reduceLE, Int.le_refl, Int.reduceBEq, Int.reduceEq, beq_self_eq_true, Int.reduceToNat, bne, Bool.not_true, Bool.not_false, Bool.true_and, Bool.false_and, Bool.and_true, Bool.and_false, Bool.true_or, Bool.false_or, Bool.or_true, Bool.or_false, go_sem, ↓reduceIte, Nat.reduceEqDiff, Nat.reduceAdd, Nat.reduceLeDiff, Nat.reduceMul, Nat.reduceBEq, Nat.reduceBneDiff, Nat.reduceLT, Nat.reduceSub, Bool.false_eq_true, List.cons_append, List.nil_append, Int.ofNat_lt, Int.natCast_nonneg]
  · rw [show wordR g w = (zeroMo, 1) by simp [wordR, ho]]
    have ho' : (okG g && okWo g w) = false := by rw [Bool.eq_false_iff]; simpa using ho
    simp +contextual -implicitDefEqProofs only [ho', hz, at0, D.put, D.cells, D.size, D.sizeL, D.isAg, modeOf, noPtrs, List.length_map, eG, eS, eI, eB, eWo, D.sub, Int.cast_ofNat_Int, Int.reduceLT, Int.reduceLE, Int.le_refl, Int.reduceBEq, Int.reduceEq, beq_self_eq_true, Int.reduceToNat, bne, Bool.not_true, Bool.not_false, Bool.true_and, Bool.false_and, Bool.and_true, Bool.and_false, Bool.true_or, Bool.false_or, Bool.or_true, Bool.or_false, go_sem, ↓reduceIte, Nat.reduceEqDiff, Nat.reduceAdd, Nat.reduceLeDiff, Nat.reduceMul, Nat.reduceBEq, Nat.reduceBneDiff, Nat.reduceLT, Nat.reduceSub, Bool.false_eq_true, List.cons_append, List.nil_append, Int.ofNat_lt, Int.natCast_nonneg]
    exact D.Le.refl _
end Go.Ax
