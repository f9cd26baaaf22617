/- Contracts of functions of the seat, proved over the engine. No condition. -/
import Derived.Test.YtjnghfepojipiaaX75
import Derived.Test.YtjnghfepojipiaaX30
set_option linter.unusedSimpArgs false
set_option linter.unusedVariables false
set_option linter.unnecessarySimpa false
namespace Go.Ax
set_option linter.unusedSimpArgs false
set_option maxRecDepth 20000
set_option maxHeartbeats 4000000

def nS (n : Int) (s : Nat) : Int := n.fdiv (2 ^ s)
theorem nS_succ {n : Int} {s : Nat} : (nS n s).fdiv 2 = nS n (s + 1) := fdiv_succ
theorem nS_zero {n : Int} : nS n 0 = n := fdiv_zero'
theorem tabD_flat {n : Int} {p s : Nat} : (tabD n p s).flat = false := rfl
def uN (n : Int) (s : Nat) : U := .ar false none 1 [.sc (.int .i64 (nS n s))]
def uV (f : Nat) : U := .bx 1 [.cl f [.pw 3000000000 0 0]]
theorem bit_eq3 {n : Int} {b : Nat} (h0 : 0 ≤ n) (h1 : n < 9223372036854775808) : (IntKind.i64.wrap ((BitVec.ofInt IntKind.i64.bits (nS n b) &&& BitVec.ofInt IntKind.i64.bits 1).toNat : Nat) == 1) = bitN n b := bit_eq h0 h1

def k_num1 : RC := (.seq (.reg false [⟨none, .mv 1 (.c (.sc (.bool false)))⟩]) ((.seq (.reg false [⟨none, .ld 3 false 1 (.t 0)⟩, ⟨none, .bin 4 .and (.t 3) (.c (.sc (.int .i64 1)))⟩, ⟨none, .bin 5 .eql (.t 4) (.c (.sc (.int .i64 1)))⟩, ⟨none, .mv 2 (.t 5)⟩]) ((.seq (.reg false [⟨none, .ld 6 false 1 (.t 0)⟩, ⟨none, .bin 7 .shr (.t 6) (.c (.sc (.int .u64 1)))⟩, ⟨none, .st 1 (.t 0) (.t 7)⟩]) ((.seq (.reg false [⟨none, .mv 8 (.t 2)⟩, ⟨none, .mv 1 (.t 8)⟩]) (.ret))))))))
def K_num1 (P : Program) (fno : Nat) : Prop := ∀ (n : Int) (s : Nat), 0 ≤ n → n < 9223372036854775808 → AFW P fno [uN n s] [.pw 3000000000 0 0] [uN n (s + 1)] (.own (.sc (.bool (bitN n s))))
theorem a_num1 {P : Program} (hm : P.follows .mixedOrders = true) {g : Nat} (hr : resF P g = some (9, k_num1, [.t 1])) : K_num1 P g := by
 intro n s h0 h1
 rw [← bit_eq3 h0 h1]
 refine afw_of_res (wv := .no) hr hm rfl rfl rfl fun hb ha => ?_
 simp +contextual -implicitDefEqProofs only [k_num1, uN, D.put, D.size, D.isAg, modeOf, noPtrs, go_sem, ↓reduceIte, Nat.reduceEqDiff, Nat.reduceLeDiff, Nat.reduceLT]
 exact ⟨by decide, by have := @nS_succ n s; simpa using this⟩

def k_num2 : RC := (.seq (.reg false [⟨none, .mv 5 (.c (.sc (.bool false)))⟩]) ((.seq (.reg false [⟨none, .ld 6 false 1 (.t 2)⟩, ⟨none, .calw (some 7) (.t 6) []⟩, ⟨none, .mv 5 (.t 7)⟩]) (.ret))))
def K_num2 (P : Program) (fno : Nat) : Prop := ∀ (f : Nat), K_num1 P f → ∀ (n : Int) (s : Nat) (x y : Int), 0 ≤ n → n < 9223372036854775808 → AFW P fno [uN n s, uV f] [.im none (eI x), .im none (eI y), .pb 3000000001 0] [uN n (s + 1), uV f] (.own (.sc (.bool (bitN n s))))
theorem a_num2 {P : Program} (hm : P.follows .mixedOrders = true) {g : Nat} (hr : resFw P .yes g = some (8, k_num2, [.t 5])) : K_num2 P g := by
 intro f hf n s x y h0 h1
 refine afw_of_res (wv := .yes) hr hm rfl rfl rfl fun hb ha => ?_
 simp +contextual -implicitDefEqProofs only [k_num2, uN, uV, go_sem, eI, ↓reduceIte, Nat.reduceEqDiff, Nat.reduceAdd, Nat.reduceLT]
 refine calw_w (wcl_self [3000000000] [] (by rfl) (by rfl) (by rfl) (hf n s h0 h1) rfl (by simp [wOut, outU, uN, noPtrs, D.noPtr]) ?_)
 simp +contextual -implicitDefEqProofs only [uN, go_sem, ↓reduceIte, Nat.reduceEqDiff, Nat.reduceAdd]

def k_tableBW : RC := (.seq (.reg false [⟨none, .mv 4 (.c (.ls (some true) 1 []))⟩]) ((.seq (.reg false [⟨none, .bs 9 1 (.ls (some true) 1 []) 0 []⟩, ⟨none, .mv 5 (.t 9)⟩]) ((.seq ((.seq (.reg false [⟨none, .mv 10 (.t 0)⟩, ⟨none, .mv 11 (.c (.sc (.int .i64 0)))⟩]) (.blk 0 (.loop ((.seq (.reg false [⟨none, .bin 12 .lss (.t 11) (.t 10)⟩]) ((.seq (.cond (.t 12) (.skip) (.exit 0)) ((.seq (.blk 1 ((.seq (.reg false [⟨none, .mv 13 (.t 11)⟩, ⟨none, .mv 6 (.t 13)⟩]) ((.seq (.reg false [⟨none, .bs 14 1 (.sc (.bool false)) 0 []⟩, ⟨none, .mv 7 (.t 14)⟩]) ((.seq ((.seq (.reg false [⟨none, .mv 15 (.t 0)⟩, ⟨none, .mv 16 (.c (.sc (.int .i64 0)))⟩]) (.blk 2 (.loop ((.seq (.reg false [⟨none, .bin 17 .lss (.t 16) (.t 15)⟩]) ((.seq (.cond (.t 17) (.skip) (.exit 2)) ((.seq (.blk 3 ((.seq (.reg false [⟨none, .mv 18 (.t 16)⟩, ⟨none, .mv 8 (.t 18)⟩]) (.reg false [⟨none, .mv 19 (.t 7)⟩, ⟨none, .mv 20 (.t 1)⟩, ⟨none, .mv 21 (.t 6)⟩, ⟨none, .mv 22 (.t 8)⟩, ⟨none, .calw (some 23) (.t 20) [(.t 21), (.t 22)]⟩, ⟨none, .bs 24 1 (.sc (.bool false)) 1 [(0, (.t 23))]⟩, ⟨none, .app 25 1 1 (.t 19) (.t 24)⟩, ⟨none, .mv 7 (.t 25)⟩])))) (.reg false [⟨none, .bin 26 .add (.t 16) (.c (.sc (.int .i64 1)))⟩, ⟨none, .mv 16 (.t 26)⟩]))))))))))) (.reg false [⟨none, .mv 27 (.t 5)⟩, ⟨none, .mv 28 (.t 7)⟩, ⟨none, .bs 29 1 (.ls (some true) 1 []) 1 [(0, (.t 28))]⟩, ⟨none, .app 30 1 24 (.t 27) (.t 29)⟩, ⟨none, .mv 5 (.t 30)⟩])))))))) (.reg false [⟨none, .bin 31 .add (.t 11) (.c (.sc (.int .i64 1)))⟩, ⟨none, .mv 11 (.t 31)⟩]))))))))))) ((.seq (.reg false [⟨none, .mv 32 (.t 5)⟩, ⟨none, .mv 4 (.t 32)⟩]) (.ret))))))))
def K_tableBW (P : Program) (fno : Nat) : Prop := ∀ (f f1 : Nat), (∀ (n : Int) (s : Nat) (x y : Int), 0 ≤ n → n < 9223372036854775808 → AFW P f [uN n s, uV f1] [.im none (eI x), .im none (eI y), .pb 3000000001 0] [uN n (s + 1), uV f1] (.own (.sc (.bool (bitN n s))))) → ∀ (n : Int) (s p : Nat), 0 ≤ n → n < 9223372036854775808 → s ≤ 1000 → p ≤ 3 → AFW P fno [uN n s, uV f1] [.im none (eI p), .cl f [.pb 3000000001 0]] [uN n (s + p * p), uV f1] (.own (tabD n p s))
theorem a_tableBW {P : Program} (hm : P.follows .mixedOrders = true) {g : Nat} (hr : resFw P .yes g = some (33, k_tableBW, [.t 4])) : K_tableBW P g := by
 intro f f1 hf n s p h0 h1 hs hp
 refine afw_of_res (wv := .yes) hr hm rfl rfl rfl fun hb ha => ?_
 simp +contextual -implicitDefEqProofs only [k_tableBW, uN, uV, go_sem, eI, ↓reduceIte, Nat.reduceEqDiff, Nat.reduceAdd, Nat.reduceBneDiff, Nat.reduceLT]
 refine vc_onU (α := Nat) [5, 6, 7, 8, 9, 11, 12, 13, 14, 15, 16, 17, 18, 19, 20, 21, 22, 23, 24, 25, 26, 27, 28, 29, 30, 31] (fun i => [(11, .im none (.sc (.int .i64 i))), (5, .sm 9 0 i)]) (fun i => [(9, .ar true (some false) 1 ((List.range i).map fun (x : Nat) => rowD n p (s + x * p))), (3000000000, uN n (s + i * p)), (3000000001, uV f1)]) (fun i => i ≤ p) (fun i => p - i) 0 (Ent.to [] (by simp only [go_sem]; rfl) rfl (by simp [uN, uV]) (by rfl) (by simp only [subEnv, go_sem, ↓reduceIte, Nat.reduceEqDiff, keep, memN] <;> simp)) (Nat.zero_le _) ?_
 intro i hi0
 have hip : i * p ≤ 3 * 3 := Nat.mul_le_mul (by omega) hp
 by_cases hi : i < p
 ·simp +contextual -implicitDefEqProofs only [hi, go_sem, ↓reduceIte, Nat.reduceEqDiff, Nat.reduceBneDiff, Nat.reduceLT, Int.ofNat_lt]
  refine vc_onU (α := Nat) [7, 8, 14, 16, 17, 18, 19, 20, 21, 22, 23, 24, 25, 26] (fun j => [(16, .im none (.sc (.int .i64 j))), (7, .sm 14 0 j)]) (fun j => [(14, .ar true (some false) 1 ((List.range j).map fun (x : Nat) => .sc (.bool (bitN n (s + i * p + x))))), (9, .ar true (some false) 1 ((List.range i).map fun (x : Nat) => rowD n p (s + x * p))), (3000000000, uN n (s + i * p + j)), (3000000001, uV f1)]) (fun j => j ≤ p) (fun j => p - j) 0 (Ent.to [] (by simp only [go_sem]; rfl) rfl (by simp) (by rfl) (by simp only [subEnv, go_sem, ↓reduceIte, Nat.reduceEqDiff, keep, memN] <;> simp)) (Nat.zero_le _) ?_
  intro j hj0
  by_cases hj : j < p
  ·simp +contextual -implicitDefEqProofs only [hj, go_sem, ↓reduceIte, Nat.reduceEqDiff, Int.ofNat_lt]
   refine calw_w (wcl_self [3000000000, 3000000001] [] (by rfl) (by rfl) (by rfl) (hf n (s + i * p + j) i j h0 h1) rfl (by simp [wOut, outU, uN, uV, okWL, AV.okW, noPtrs, D.noPtr]) ?_)
   simp +contextual -implicitDefEqProofs only [uN, uV, D.size, modeOf, noPtrs, List.length_map, List.length_range, go_sem, ↓reduceIte, Nat.reduceEqDiff, Nat.reduceAdd, Nat.reduceLeDiff, Nat.reduceMul, Nat.reduceBEq, Nat.reduceBneDiff, Nat.reduceLT, Nat.reduceSub]
   refine ⟨rfl, ⟨by omega, by unfold maxEl; omega, by simp [D.size]⟩, j + 1, by omega, by omega, ?_⟩
   rw [wrap_i64 (by omega) (by omega)]
   exact Ent.to [] (by simp only [go_sem]; rfl) rfl (by simp [List.range_succ, List.map_append, Nat.add_assoc]) (by rfl) (by simp only [subEnv, go_sem, ↓reduceIte, Nat.reduceEqDiff] <;> simp)
  ·obtain rfl : p = j := by omega
   simp +contextual -implicitDefEqProofs only [hj, modeOf, noPtrs, List.length_map, List.length_range, go_sem, ↓reduceIte, Nat.reduceEqDiff, Nat.reduceLeDiff, Nat.reduceMul, Nat.reduceBEq, Nat.reduceBneDiff, Nat.reduceLT, Int.ofNat_lt]
   rw [show s + i * p + p = s + (i + 1) * p by rw [Nat.succ_mul]; omega]
   refine ⟨rfl, ⟨by omega, by unfold maxEl; omega, by simp [D.size]⟩, i + 1, by omega, by omega, ?_⟩
   rw [wrap_i64 (by omega) (by omega)]
   exact Ent.to [] (by simp only [go_sem]; rfl) rfl (by simp [List.range_succ, List.map_append, rowD, uN, uV, killL, AV.refs, AV.refsL]) (by rfl) (by simp only [subEnv, go_sem, ↓reduceIte, Nat.reduceEqDiff] <;> simp)
 ·obtain rfl : p = i := by omega
  simp +contextual -implicitDefEqProofs only [hi, uN, uV, List.length_map, List.length_range, go_sem, ↓reduceIte, Nat.reduceEqDiff, Nat.reduceAdd, Nat.reduceBEq, Int.ofNat_lt]
  exact D.Le.refl _

def k_numbered (f1 f2 f3 : Nat) : RC := (.seq (.reg false [⟨none, .box 3 2 (.t 0)⟩, ⟨none, .box 5 1 (.t 2)⟩, ⟨none, .zer 6 5 (.ag [(.sc (.int .i64 0)), (.sc (.int .i64 0)), (.sc (.int .i64 0)), (.ls (some true) 1 []), (.ls (some true) 1 [])])⟩]) ((.seq (.reg false [⟨none, .mkf 10 f2 [(.t 5)]⟩, ⟨none, .zer 7 1 (.sc .nilFunc)⟩, ⟨none, .st 1 (.t 7) (.t 10)⟩]) ((.seq (.reg false [⟨none, .ld 11 true 2 (.t 3)⟩, ⟨none, .mv 12 (.t 1)⟩, ⟨none, .bld 13 (.ag [(.sc (.int .i64 0)), (.sc (.int .i64 0)), (.sc (.int .i64 0)), (.ls (some true) 1 []), (.ls (some true) 1 [])]) [(0, 2, (.t 11)), (2, 1, (.t 12))]⟩, ⟨none, .zer 8 5 (.ag [(.sc (.int .i64 0)), (.sc (.int .i64 0)), (.sc (.int .i64 0)), (.ls (some true) 1 []), (.ls (some true) 1 [])])⟩, ⟨none, .st 5 (.t 8) (.t 13)⟩]) ((.seq ((.seq (.reg false [⟨none, .fa 14 0 (.t 3)⟩, ⟨none, .ld 15 false 1 (.t 14)⟩, ⟨none, .mv 16 (.c (.sc (.int .i64 0)))⟩]) (.blk 0 (.loop ((.seq (.reg false [⟨none, .bin 17 .lss (.t 16) (.t 15)⟩]) ((.seq (.cond (.t 17) (.skip) (.exit 0)) ((.seq (.blk 1 ((.seq (.reg false [⟨none, .bs 18 1 (.sc (.bool false)) 0 []⟩, ⟨none, .mv 9 (.t 18)⟩]) ((.seq ((.seq (.reg false [⟨none, .mv 19 (.t 1)⟩, ⟨none, .mv 20 (.c (.sc (.int .i64 0)))⟩]) (.blk 2 (.loop ((.seq (.reg false [⟨none, .bin 21 .lss (.t 20) (.t 19)⟩]) ((.seq (.cond (.t 21) (.skip) (.exit 2)) ((.seq (.blk 3 (.reg false [⟨none, .mv 22 (.t 9)⟩, ⟨none, .ld 23 false 1 (.t 7)⟩, ⟨none, .calw (some 24) (.t 23) []⟩, ⟨none, .bs 25 1 (.sc (.bool false)) 1 [(0, (.t 24))]⟩, ⟨none, .app 26 1 1 (.t 22) (.t 25)⟩, ⟨none, .mv 9 (.t 26)⟩])) (.reg false [⟨none, .bin 27 .add (.t 20) (.c (.sc (.int .i64 1)))⟩, ⟨none, .mv 20 (.t 27)⟩]))))))))))) (.reg false [⟨none, .fa 28 3 (.t 8)⟩, ⟨none, .ld 29 false 1 (.t 28)⟩, ⟨none, .mv 30 (.t 9)⟩, ⟨none, .bs 31 1 (.ls (some true) 1 []) 1 [(0, (.t 30))]⟩, ⟨none, .app 32 1 24 (.t 29) (.t 31)⟩, ⟨none, .fa 33 3 (.t 8)⟩, ⟨none, .st 1 (.t 33) (.t 32)⟩])))))) (.reg false [⟨none, .bin 34 .add (.t 16) (.c (.sc (.int .i64 1)))⟩, ⟨none, .mv 16 (.t 34)⟩]))))))))))) ((.seq ((.seq (.reg false [⟨none, .fa 35 1 (.t 3)⟩, ⟨none, .ld 36 false 1 (.t 35)⟩, ⟨none, .mv 37 (.c (.sc (.int .i64 0)))⟩]) (.blk 4 (.loop ((.seq (.reg false [⟨none, .bin 38 .lss (.t 37) (.t 36)⟩]) ((.seq (.cond (.t 38) (.skip) (.exit 4)) ((.seq (.blk 5 (.regL [⟨none, .fa 39 4 (.t 8)⟩, ⟨none, .ld 40 false 1 (.t 39)⟩, ⟨none, .mv 41 (.t 1)⟩, ⟨none, .mkf 42 f3 [(.t 7)]⟩] [([(.ld 40 false 1 (.t 39))], ⟨none, .wcl (some 43) f1 [(.t 41), (.t 42)]⟩), ([(.ld 40 false 1 (.t 39))], ⟨none, .bs 44 1 (.ls (some true) 1 []) 1 [(0, (.t 43))]⟩), ([(.ld 40 false 1 (.t 39))], ⟨none, .app 45 1 24 (.t 40) (.t 44)⟩), ([], ⟨none, .fa 46 4 (.t 8)⟩), ([], ⟨none, .st 1 (.t 46) (.t 45)⟩)])) (.reg false [⟨none, .bin 47 .add (.t 37) (.c (.sc (.int .i64 1)))⟩, ⟨none, .mv 37 (.t 47)⟩]))))))))))) ((.seq (.reg false [⟨none, .ld 48 true 5 (.t 8)⟩, ⟨none, .st 5 (.t 6) (.t 48)⟩]) (.ret))))))))))))
def K_numbered (P : Program) (fno : Nat) : Prop := ∀ (t a p : Nat) (n : Int) (ht : t ≤ 3) (ha : a ≤ 4) (hp : p ≤ 3) (h0 : 0 ≤ n) (h1 : n < 9223372036854775808), AF P fno [eG ((t : Int), (a : Int)), eI p, eI n] (.own (numD t a p n))
theorem a_numbered {P : Program} (hm : P.follows .mixedOrders = true) {g f1 f2 f3 : Nat} (hr : resFw P .yes g = some (49, k_numbered f1 f2 f3, [.c 6 5 true])) (hc1 : K_tableBW P f1) (hc2 : K_num1 P f2) (hc3 : K_num2 P f3) : K_numbered P g := by
 intro t a p n ht ha hp h0 h1
 refine af_of_resw hr hm rfl fun hb => ?_
 simp +contextual -implicitDefEqProofs only [k_numbered, eG, eI, D.put, D.cells, D.size, D.sizeL, D.isAg, modeOf, noPtrs, D.at, D.sub, go_sem, ↓reduceIte, Nat.reduceEqDiff, Nat.reduceAdd, Nat.reduceLeDiff, Nat.reduceBEq, Nat.reduceBneDiff, Nat.reduceLT, Nat.reduceSub]
 refine vc_onU (α := Nat) [9, 16, 17, 18, 19, 20, 21, 22, 23, 24, 25, 26, 27, 28, 29, 30, 31, 32, 33, 34] (fun i => [(16, .im none (.sc (.int .i64 i)))]) (fun i => [(8, .ar true (some false) 5 [.ag [.sc (.int .i64 t), .sc (.int .i64 a), .sc (.int .i64 p), .ls (nnL (List.range i)) 1 ((List.range i).map fun (i : Nat) => rowD n p (i * p)), .ls (some true) 1 []]]), (5, .ar false (some false) 1 [.sc (.int .i64 (nS n (i * p)))]), (7, .bx 1 [.cl f2 [.pw 5 0 0]]), (6, .ar true (some false) 5 [.ag [.sc (.int .i64 0), .sc (.int .i64 0), .sc (.int .i64 0), .ls (some true) 1 [], .ls (some true) 1 []]]), (3, .ar false (some false) 2 [.ag [.sc (.int .i64 t), .sc (.int .i64 a)]])]) (fun i => i ≤ t) (fun i => t - i) 0 (Ent.to [] (by simp only [go_sem]; rfl) rfl (by simp [nnL, nS_zero]) (by rfl) (by simp only [subEnv, go_sem, ↓reduceIte, Nat.reduceEqDiff, keep, memN] <;> simp)) (Nat.zero_le _) ?_
 intro i hi0
 by_cases hi : i < t
 ·simp +contextual -implicitDefEqProofs only [hi, go_sem, ↓reduceIte, Nat.reduceEqDiff, Nat.reduceBneDiff, Nat.reduceLT, Int.ofNat_lt]
  refine vc_onU (α := Nat) [9, 18, 20, 21, 22, 23, 24, 25, 26, 27] (fun j => [(20, .im none (.sc (.int .i64 j))), (9, .sm 18 0 j)]) (fun j => [(18, .ar true (some false) 1 ((List.range j).map fun (x : Nat) => .sc (.bool (bitN n (i * p + x))))), (8, .ar true (some false) 5 [.ag [.sc (.int .i64 t), .sc (.int .i64 a), .sc (.int .i64 p), .ls (nnL (List.range i)) 1 ((List.range i).map fun (i : Nat) => rowD n p (i * p)), .ls (some true) 1 []]]), (5, .ar false (some false) 1 [.sc (.int .i64 (nS n (i * p + j)))]), (7, .bx 1 [.cl f2 [.pw 5 0 0]]), (6, .ar true (some false) 5 [.ag [.sc (.int .i64 0), .sc (.int .i64 0), .sc (.int .i64 0), .ls (some true) 1 [], .ls (some true) 1 []]]), (3, .ar false (some false) 2 [.ag [.sc (.int .i64 t), .sc (.int .i64 a)]])]) (fun j => j ≤ p) (fun j => p - j) 0 (Ent.to [] (by simp only [go_sem]; rfl) rfl (by simp) (by rfl) (by simp only [subEnv, go_sem, ↓reduceIte, Nat.reduceEqDiff, keep, memN] <;> simp)) (Nat.zero_le _) ?_
  intro j hj0
  have hbn : i * p ≤ 3 * 3 := Nat.mul_le_mul (by omega) hp
  by_cases hj : j < p
  ·simp +contextual -implicitDefEqProofs only [hj, go_sem, ↓reduceIte, Nat.reduceEqDiff, Nat.reduceLT, Int.ofNat_lt]
   refine calw_w (wcl_self [5] [] (by rfl) (by rfl) (by rfl) (hc2 n (i * p + j) h0 h1) rfl (by simp [wOut, outU, uN, noPtrs, D.noPtr]) ?_)
   simp +contextual -implicitDefEqProofs only [uN, D.size, modeOf, noPtrs, List.length_map, List.length_range, go_sem, ↓reduceIte, Nat.reduceEqDiff, Nat.reduceLeDiff, Nat.reduceMul, Nat.reduceBEq, Nat.reduceBneDiff, Nat.reduceLT]
   refine ⟨rfl, ⟨by omega, by unfold maxEl; omega, by simp [D.size]⟩, j + 1, by omega, by omega, ?_⟩
   rw [wrap_i64 (by omega) (by omega)]
   exact Ent.to [] (by simp only [go_sem]; rfl) rfl (by simp [List.range_succ, List.map_append, Nat.add_assoc]) (by rfl) (by simp only [subEnv, go_sem, ↓reduceIte, Nat.reduceEqDiff] <;> simp)
  ·obtain rfl : p = j := by omega
   simp +contextual -implicitDefEqProofs only [hj, D.put, D.cells, D.size, D.isAg, modeOf, noPtrs, List.length_map, List.length_range, go_sem, ↓reduceIte, Nat.reduceEqDiff, Nat.reduceAdd, Nat.reduceLeDiff, Nat.reduceMul, Nat.reduceBEq, Nat.reduceBneDiff, Nat.reduceLT, Int.ofNat_lt]
   rw [show i * p + p = (i + 1) * p by rw [Nat.succ_mul]]
   refine ⟨rfl, ⟨by omega, by unfold maxEl; omega, by simp [D.size]⟩, i + 1, by omega, by omega, ?_⟩
   rw [wrap_i64 (by omega) (by omega)]
   exact Ent.to [] (by simp only [go_sem]; rfl) rfl (by simp [nnL_app, List.range_succ, List.map_append, rowD]) (by rfl) (by simp only [subEnv, go_sem, ↓reduceIte, Nat.reduceEqDiff] <;> simp)
 ·obtain rfl : t = i := by omega
  simp +contextual -implicitDefEqProofs only [hi, D.isAg, go_sem, ↓reduceIte, Nat.reduceEqDiff, Nat.reduceAdd, Nat.reduceLeDiff, Nat.reduceLT, Int.ofNat_lt]
  refine vc_onU (α := Nat) [37, 38, 39, 40, 41, 42, 43, 44, 45, 46, 47] (fun k => [(37, .im none (.sc (.int .i64 k)))]) (fun k => [(8, .ar true (some false) 5 [.ag [.sc (.int .i64 t), .sc (.int .i64 a), .sc (.int .i64 p), .ls (nnL (List.range t)) 1 ((List.range t).map fun (i : Nat) => rowD n p (i * p)), .ls (nnL (List.range k)) 1 ((List.range k).map fun (i : Nat) => tabD n p (t * p + i * (p * p)))]]), (5, .ar false (some false) 1 [.sc (.int .i64 (nS n (t * p + k * (p * p))))]), (7, .bx 1 [.cl f2 [.pw 5 0 0]]), (6, .ar true (some false) 5 [.ag [.sc (.int .i64 0), .sc (.int .i64 0), .sc (.int .i64 0), .ls (some true) 1 [], .ls (some true) 1 []]]), (3, .ar false (some false) 2 [.ag [.sc (.int .i64 t), .sc (.int .i64 a)]])]) (fun k => k ≤ a) (fun k => a - k) 0 (Ent.to [] (by simp only [go_sem]; rfl) rfl (by simp [nnL]) (by rfl) (by simp only [subEnv, go_sem, ↓reduceIte, Nat.reduceEqDiff, keep, memN] <;> simp)) (Nat.zero_le _) ?_
  intro k hk0
  have hpp : p * p ≤ 3 * 3 := Nat.mul_le_mul hp hp
  have hip : t * p ≤ 3 * 3 := Nat.mul_le_mul ht hp
  have hkp : k * (p * p) ≤ 4 * (3 * 3) := Nat.mul_le_mul (by omega) hpp
  by_cases hk : k < a
  ·simp +contextual -implicitDefEqProofs only [hk, D.isAg, go_sem, ↓reduceIte, Nat.reduceEqDiff, Nat.reduceAdd, Nat.reduceLeDiff, Nat.reduceLT, Int.ofNat_lt]
   refine wcl_self [5, 7] [] (by rfl) (by rfl) (by rfl) (hc1 _ _ (hc3 _ hc2) n (t * p + k * (p * p)) p h0 h1 (by omega) hp) rfl (by simp [wOut, outU, uN, uV, okWL, AV.okW, noPtrs, D.noPtr]) ?_
   simp +contextual -implicitDefEqProofs only [uN, uV, tabD_flat, tabD_size, D.put, D.cells, D.size, D.isAg, modeOf, noPtrs, List.length_map, List.length_range, go_sem, ↓reduceIte, Nat.reduceEqDiff, Nat.reduceAdd, Nat.reduceLeDiff, Nat.reduceMul, Nat.reduceBEq, Nat.reduceBneDiff, Nat.reduceLT, Nat.reduceSub]
   rw [show t * p + k * (p * p) + p * p = t * p + (k + 1) * (p * p) by rw [Nat.succ_mul]; omega]
   refine ⟨rfl, ⟨by omega, by unfold maxEl; omega, by simp [tabD_size]⟩, k + 1, by omega, by omega, ?_⟩
   rw [wrap_i64 (by omega) (by omega)]
   exact Ent.to [] (by simp only [go_sem]; rfl) rfl (by simp [nnL_app, List.range_succ, List.map_append]) (by rfl) (by simp only [subEnv, go_sem, ↓reduceIte, Nat.reduceEqDiff] <;> simp)
  ·obtain rfl : a = k := by omega
   simp +contextual -implicitDefEqProofs only [hk, D.put, D.size, D.sizeL, D.isAg, modeOf, noPtrs, go_sem, ↓reduceIte, Nat.reduceEqDiff, Nat.reduceAdd, Nat.reduceLeDiff, Nat.reduceBEq, Nat.reduceLT, Int.ofNat_lt]
   exact D.Le.refl _
end Go.Ax
