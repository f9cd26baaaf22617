/- Contracts of functions of the seat, proved over the engine. No condition. -/
import Derived.Test.YtjnghfepojipiaaEnI
import Derived.Test.YtjnghfepojipiaaX21
import Derived.Test.YtjnghfepojipiaaAxI
set_option linter.unusedSimpArgs false
set_option linter.unusedVariables false
set_option linter.unnecessarySimpa false
namespace Go.Ax
set_option linter.unusedSimpArgs false
set_option maxRecDepth 20000
set_option maxHeartbeats 4000000
def bitN (n : Int) (b : Nat) : Bool := n.fdiv (2 ^ b) % 2 == 1
theorem bit_and {m : Int} (h0 : 0 ≤ m) (h1 : m < 9223372036854775808) : IntKind.i64.wrap ((BitVec.ofInt 64 m &&& BitVec.ofInt 64 1).toNat : Nat) = m % 2 := by
 obtain ⟨k, rfl⟩ : ∃ k : Nat, m = k := ⟨m.toNat, by omega⟩
 have e : (BitVec.ofInt 64 (k : Int) &&& BitVec.ofInt 64 1).toNat = k % 2 := by
  rw [BitVec.toNat_and]
  have h2 : (BitVec.ofInt 64 (k : Int)).toNat = k := by
   rw [BitVec.ofInt_natCast, BitVec.toNat_ofNat, Nat.mod_eq_of_lt (by omega)]
  have h3 : (BitVec.ofInt 64 1).toNat = 1 := by decide
  rw [h2, h3, Nat.and_one_is_mod]
 rw [e, wrap_i64 (by omega) (by omega)]
 omega
theorem fdiv_in {n : Int} (h0 : 0 ≤ n) {b : Nat} : 0 ≤ n.fdiv (2 ^ b) ∧ n.fdiv (2 ^ b) ≤ n := by
 have hp : (0 : Int) < 2 ^ b := Int.pow_pos (by decide)
 rw [Int.fdiv_eq_ediv_of_nonneg _ (by omega)]
 exact ⟨Int.ediv_nonneg h0 (by omega), Int.ediv_le_self _ h0⟩
theorem fdiv_succ {n : Int} {b : Nat} : (n.fdiv (2 ^ b)).fdiv 2 = n.fdiv (2 ^ (b + 1)) := by
 have hp : (0 : Int) < 2 ^ b := Int.pow_pos (by decide)
 have hp2 : (0 : Int) < 2 ^ (b + 1) := Int.pow_pos (by decide)
 rw [Int.fdiv_eq_ediv_of_nonneg _ (by omega), Int.fdiv_eq_ediv_of_nonneg _ (by omega), Int.fdiv_eq_ediv_of_nonneg _ (by omega), Int.pow_succ, Int.ediv_ediv_of_nonneg (by omega)]
theorem fdiv_zero' {n : Int} : n.fdiv (2 ^ 0) = n := by simp

theorem bit_eq {n : Int} {b : Nat} (h0 : 0 ≤ n) (h1 : n < 9223372036854775808) : (IntKind.i64.wrap ((BitVec.ofInt 64 (n.fdiv (2 ^ b)) &&& BitVec.ofInt 64 1).toNat : Nat) == 1) = bitN n b := by
 have := @fdiv_in n h0 b
 rw [bit_and this.1 (by omega)]
 rfl
def rowD (n : Int) (p s : Nat) : D := .ls (some false) 1 ((List.range p).map fun (x : Nat) => .sc (.bool (bitN n (s + x))))
def tabD (n : Int) (p s : Nat) : D := .ls (some false) 1 ((List.range p).map fun (x : Nat) => rowD n p (s + x * p))

def numD (t a p : Nat) (n : Int) : D := .ag [.sc (.int .i64 t), .sc (.int .i64 a), .sc (.int .i64 p), .ls (nnL (List.range t)) 1 ((List.range t).map fun (i : Nat) => rowD n p (i * p)), .ls (nnL (List.range a)) 1 ((List.range a).map fun (i : Nat) => tabD n p (t * p + i * (p * p)))]
theorem nnL_app {l : List Nat} {x : Nat} : nnL (l ++ [x]) = some false := by cases l <;> rfl
theorem tabD_size {n : Int} {p s : Nat} : (tabD n p s).size = 1 := rfl
theorem wrap_u {k : Nat} (h : k < 1000000) : IntKind.u64.wrap ((k : Int) + 1) = ((k + 1 : Nat) : Int) := by
 unfold IntKind.wrap
 simp [IntKind.signed, IntKind.bits]
 omega

def k_l05Numbered : RC := (.seq (.reg false [⟨none, .box 3 2 (.t 0)⟩, ⟨none, .zer 6 5 (.ag [(.sc (.int .i64 0)), (.sc (.int .i64 0)), (.sc (.int .i64 0)), (.ls (some true) 1 []), (.ls (some true) 1 [])])⟩]) ((.seq (.reg false [⟨none, .ld 17 true 2 (.t 3)⟩, ⟨none, .mv 18 (.t 1)⟩, ⟨none, .bld 19 (.ag [(.sc (.int .i64 0)), (.sc (.int .i64 0)), (.sc (.int .i64 0)), (.ls (some true) 1 []), (.ls (some true) 1 [])]) [(0, 2, (.t 17)), (2, 1, (.t 18))]⟩, ⟨none, .zer 7 5 (.ag [(.sc (.int .i64 0)), (.sc (.int .i64 0)), (.sc (.int .i64 0)), (.ls (some true) 1 []), (.ls (some true) 1 [])])⟩, ⟨none, .st 5 (.t 7) (.t 19)⟩]) ((.seq (.reg false [⟨none, .mv 8 (.c (.sc (.int .u64 0)))⟩]) ((.seq ((.seq (.reg false [⟨none, .mv 9 (.c (.sc (.int .i64 0)))⟩]) (.blk 0 (.loop ((.seq ((.seq (.reg false [⟨none, .mv 20 (.t 9)⟩, ⟨none, .fa 21 0 (.t 3)⟩, ⟨none, .ld 22 false 1 (.t 21)⟩, ⟨none, .bin 23 .lss (.t 20) (.t 22)⟩]) (.cond (.t 23) (.skip) (.exit 0)))) ((.seq (.blk 1 ((.seq (.reg false [⟨none, .bs 26 1 (.sc (.bool false)) 0 []⟩, ⟨none, .mv 10 (.t 26)⟩]) ((.seq ((.seq (.reg false [⟨none, .mv 11 (.c (.sc (.int .i64 0)))⟩]) (.blk 2 (.loop ((.seq ((.seq (.reg false [⟨none, .mv 27 (.t 11)⟩, ⟨none, .mv 28 (.t 1)⟩, ⟨none, .bin 29 .lss (.t 27) (.t 28)⟩]) (.cond (.t 29) (.skip) (.exit 2)))) ((.seq (.blk 3 ((.seq (.reg false [⟨none, .mv 32 (.t 10)⟩, ⟨none, .mv 33 (.t 2)⟩, ⟨none, .mv 34 (.t 8)⟩, ⟨none, .bin 35 .shr (.t 33) (.t 34)⟩, ⟨none, .bin 36 .and (.t 35) (.c (.sc (.int .i64 1)))⟩, ⟨none, .bin 37 .eql (.t 36) (.c (.sc (.int .i64 1)))⟩, ⟨none, .bs 38 1 (.sc (.bool false)) 1 [(0, (.t 37))]⟩, ⟨none, .app 39 1 1 (.t 32) (.t 38)⟩, ⟨none, .mv 10 (.t 39)⟩]) (.reg false [⟨none, .mv 40 (.t 8)⟩, ⟨none, .bin 41 .add (.t 40) (.c (.sc (.int .u64 1)))⟩, ⟨none, .mv 8 (.t 41)⟩])))) (.reg false [⟨none, .mv 30 (.t 11)⟩, ⟨none, .bin 31 .add (.t 30) (.c (.sc (.int .i64 1)))⟩, ⟨none, .mv 11 (.t 31)⟩]))))))))) (.reg false [⟨none, .fa 42 3 (.t 7)⟩, ⟨none, .ld 43 false 1 (.t 42)⟩, ⟨none, .mv 44 (.t 10)⟩, ⟨none, .bs 45 1 (.ls (some true) 1 []) 1 [(0, (.t 44))]⟩, ⟨none, .app 46 1 24 (.t 43) (.t 45)⟩, ⟨none, .fa 47 3 (.t 7)⟩, ⟨none, .st 1 (.t 47) (.t 46)⟩])))))) (.reg false [⟨none, .mv 24 (.t 9)⟩, ⟨none, .bin 25 .add (.t 24) (.c (.sc (.int .i64 1)))⟩, ⟨none, .mv 9 (.t 25)⟩]))))))))) ((.seq ((.seq (.reg false [⟨none, .mv 12 (.c (.sc (.int .i64 0)))⟩]) (.blk 4 (.loop ((.seq ((.seq (.reg false [⟨none, .mv 48 (.t 12)⟩, ⟨none, .fa 49 1 (.t 3)⟩, ⟨none, .ld 50 false 1 (.t 49)⟩, ⟨none, .bin 51 .lss (.t 48) (.t 50)⟩]) (.cond (.t 51) (.skip) (.exit 4)))) ((.seq (.blk 5 ((.seq (.reg false [⟨none, .bs 54 1 (.ls (some true) 1 []) 0 []⟩, ⟨none, .mv 13 (.t 54)⟩]) ((.seq ((.seq (.reg false [⟨none, .mv 14 (.c (.sc (.int .i64 0)))⟩]) (.blk 6 (.loop ((.seq ((.seq (.reg false [⟨none, .mv 55 (.t 14)⟩, ⟨none, .mv 56 (.t 1)⟩, ⟨none, .bin 57 .lss (.t 55) (.t 56)⟩]) (.cond (.t 57) (.skip) (.exit 6)))) ((.seq (.blk 7 ((.seq (.reg false [⟨none, .bs 60 1 (.sc (.bool false)) 0 []⟩, ⟨none, .mv 15 (.t 60)⟩]) ((.seq ((.seq (.reg false [⟨none, .mv 16 (.c (.sc (.int .i64 0)))⟩]) (.blk 8 (.loop ((.seq ((.seq (.reg false [⟨none, .mv 61 (.t 16)⟩, ⟨none, .mv 62 (.t 1)⟩, ⟨none, .bin 63 .lss (.t 61) (.t 62)⟩]) (.cond (.t 63) (.skip) (.exit 8)))) ((.seq (.blk 9 ((.seq (.reg false [⟨none, .mv 66 (.t 15)⟩, ⟨none, .mv 67 (.t 2)⟩, ⟨none, .mv 68 (.t 8)⟩, ⟨none, .bin 69 .shr (.t 67) (.t 68)⟩, ⟨none, .bin 70 .and (.t 69) (.c (.sc (.int .i64 1)))⟩, ⟨none, .bin 71 .eql (.t 70) (.c (.sc (.int .i64 1)))⟩, ⟨none, .bs 72 1 (.sc (.bool false)) 1 [(0, (.t 71))]⟩, ⟨none, .app 73 1 1 (.t 66) (.t 72)⟩, ⟨none, .mv 15 (.t 73)⟩]) (.reg false [⟨none, .mv 74 (.t 8)⟩, ⟨none, .bin 75 .add (.t 74) (.c (.sc (.int .u64 1)))⟩, ⟨none, .mv 8 (.t 75)⟩])))) (.reg false [⟨none, .mv 64 (.t 16)⟩, ⟨none, .bin 65 .add (.t 64) (.c (.sc (.int .i64 1)))⟩, ⟨none, .mv 16 (.t 65)⟩]))))))))) (.reg false [⟨none, .mv 76 (.t 13)⟩, ⟨none, .mv 77 (.t 15)⟩, ⟨none, .bs 78 1 (.ls (some true) 1 []) 1 [(0, (.t 77))]⟩, ⟨none, .app 79 1 24 (.t 76) (.t 78)⟩, ⟨none, .mv 13 (.t 79)⟩])))))) (.reg false [⟨none, .mv 58 (.t 14)⟩, ⟨none, .bin 59 .add (.t 58) (.c (.sc (.int .i64 1)))⟩, ⟨none, .mv 14 (.t 59)⟩]))))))))) (.reg false [⟨none, .fa 80 4 (.t 7)⟩, ⟨none, .ld 81 false 1 (.t 80)⟩, ⟨none, .mv 82 (.t 13)⟩, ⟨none, .bs 83 1 (.ls (some true) 1 []) 1 [(0, (.t 82))]⟩, ⟨none, .app 84 1 24 (.t 81) (.t 83)⟩, ⟨none, .fa 85 4 (.t 7)⟩, ⟨none, .st 1 (.t 85) (.t 84)⟩])))))) (.reg false [⟨none, .mv 52 (.t 12)⟩, ⟨none, .bin 53 .add (.t 52) (.c (.sc (.int .i64 1)))⟩, ⟨none, .mv 12 (.t 53)⟩]))))))))) ((.seq (.reg false [⟨none, .ld 86 true 5 (.t 7)⟩, ⟨none, .st 5 (.t 6) (.t 86)⟩]) (.ret))))))))))))
def K_l05Numbered (P : Program) (fno : Nat) : Prop := ∀ (t a p : Nat) (n : Int) (ht : t ≤ 3) (ha : a ≤ 4) (hp : p ≤ 3) (h0 : 0 ≤ n) (h1 : n < 9223372036854775808), AF P fno [eG ((t : Int), (a : Int)), eI p, eI n] (.own (numD t a p n))
theorem a_l05Numbered {P : Program} (hm : P.follows .mixedOrders = true) {g : Nat} (hr : resF P g = some (87, k_l05Numbered, [.c 6 5 true])) : K_l05Numbered P g := by
 intro t a p n ht ha hp h0 h1
 refine af_of_res hr hm rfl fun hb => ?_
 simp +contextual -implicitDefEqProofs only [k_l05Numbered, eG, eI, D.put, D.cells, D.size, D.sizeL, D.isAg, modeOf, noPtrs, D.at, D.sub, go_sem, ↓reduceIte, Nat.reduceEqDiff, Nat.reduceAdd, Nat.reduceLeDiff, Nat.reduceBEq, Nat.reduceBneDiff, Nat.reduceLT, Nat.reduceSub]
 refine vc_onU (α := Nat) [8, 9, 10, 11, 20, 21, 22, 23, 24, 25, 26, 27, 28, 29, 30, 31, 32, 33, 34, 35, 36, 37, 38, 39, 40, 41, 42, 43, 44, 45, 46, 47] (fun i => [(9, .im none (.sc (.int .i64 i))), (8, .im none (.sc (.int .u64 ((i * p : Nat) : Int))))]) (fun i => [(7, .ar true (some false) 5 [.ag [.sc (.int .i64 t), .sc (.int .i64 a), .sc (.int .i64 p), .ls (nnL (List.range i)) 1 ((List.range i).map fun (i : Nat) => rowD n p (i * p)), .ls (some true) 1 []]]), (6, .ar true (some false) 5 [.ag [.sc (.int .i64 0), .sc (.int .i64 0), .sc (.int .i64 0), .ls (some true) 1 [], .ls (some true) 1 []]]), (3, .ar false (some false) 2 [.ag [.sc (.int .i64 t), .sc (.int .i64 a)]])]) (fun i => i ≤ t) (fun i => t - i) 0 (Ent.to [] (by simp only [go_sem]; rfl) rfl (by simp [nnL]) (by rfl) (by simp only [subEnv, go_sem, ↓reduceIte, Nat.reduceEqDiff, keep, memN] <;> simp)) (Nat.zero_le _) ?_
 intro i hi0
 by_cases hi : i < t
 ·simp +contextual -implicitDefEqProofs only [hi, D.isAg, go_sem, ↓reduceIte, Nat.reduceEqDiff, Nat.reduceLeDiff, Nat.reduceBneDiff, Nat.reduceLT, Int.ofNat_lt]
  refine vc_onU (α := Nat) [8, 10, 11, 26, 27, 28, 29, 30, 31, 32, 33, 34, 35, 36, 37, 38, 39, 40, 41] (fun j => [(11, .im none (.sc (.int .i64 j))), (10, .sm 26 0 j), (8, .im none (.sc (.int .u64 ((i * p + j : Nat) : Int))))]) (fun j => [(26, .ar true (some false) 1 ((List.range j).map fun (x : Nat) => .sc (.bool (bitN n (i * p + x))))), (7, .ar true (some false) 5 [.ag [.sc (.int .i64 t), .sc (.int .i64 a), .sc (.int .i64 p), .ls (nnL (List.range i)) 1 ((List.range i).map fun (i : Nat) => rowD n p (i * p)), .ls (some true) 1 []]]), (6, .ar true (some false) 5 [.ag [.sc (.int .i64 0), .sc (.int .i64 0), .sc (.int .i64 0), .ls (some true) 1 [], .ls (some true) 1 []]]), (3, .ar false (some false) 2 [.ag [.sc (.int .i64 t), .sc (.int .i64 a)]])]) (fun j => j ≤ p) (fun j => p - j) 0 (Ent.to [] (by simp only [go_sem]; rfl) rfl (by simp) (by rfl) (by simp only [subEnv, go_sem, ↓reduceIte, Nat.reduceEqDiff, keep, memN] <;> simp)) (Nat.zero_le _) ?_
  intro j hj0
  have hbn : i * p ≤ 3 * 3 := Nat.mul_le_mul (by omega) hp
  by_cases hj : j < p
  ·simp +contextual -implicitDefEqProofs only [hj, D.size, modeOf, noPtrs, List.length_map, List.length_range, go_sem, ↓reduceIte, Nat.reduceEqDiff, Nat.reduceLeDiff, Nat.reduceMul, Nat.reduceBEq, Nat.reduceBneDiff, Nat.reduceLT, Int.ofNat_lt, Int.natCast_nonneg]
   rw [show min (i * p + j) 64 = i * p + j from Nat.min_eq_left (by omega)]
   erw [bit_eq h0 h1]
   rw [wrap_u (by omega), show i * p + j + 1 = i * p + (j + 1) by omega]
   refine ⟨rfl, ⟨by omega, by unfold maxEl; omega, by simp [D.size]⟩, j + 1, by omega, by omega, ?_⟩
   rw [wrap_i64 (by omega) (by omega)]
   exact Ent.to [] (by simp only [go_sem]; rfl) rfl (by simp [List.range_succ, List.map_append]) (by rfl) (by simp only [subEnv, go_sem, ↓reduceIte, Nat.reduceEqDiff] <;> simp)
  ·obtain rfl : p = j := by omega
   simp +contextual -implicitDefEqProofs only [hj, D.put, D.cells, D.size, D.isAg, modeOf, noPtrs, List.length_map, List.length_range, go_sem, ↓reduceIte, Nat.reduceEqDiff, Nat.reduceAdd, Nat.reduceLeDiff, Nat.reduceMul, Nat.reduceBEq, Nat.reduceBneDiff, Nat.reduceLT, Int.ofNat_lt]
   rw [show i * p + p = (i + 1) * p by rw [Nat.succ_mul]]
   refine ⟨rfl, ⟨by omega, by unfold maxEl; omega, by simp [D.size]⟩, i + 1, by omega, by omega, ?_⟩
   rw [wrap_i64 (by omega) (by omega)]
   exact Ent.to [] (by simp only [go_sem]; rfl) rfl (by simp [nnL_app, List.range_succ, List.map_append, rowD]) (by rfl) (by simp only [subEnv, go_sem, ↓reduceIte, Nat.reduceEqDiff] <;> simp)
 ·obtain rfl : t = i := by omega
  simp +contextual -implicitDefEqProofs only [hi, D.isAg, go_sem, ↓reduceIte, Nat.reduceEqDiff, Nat.reduceLeDiff, Nat.reduceLT, Int.ofNat_lt]
  refine vc_onU (α := Nat) [8, 12, 13, 14, 15, 16, 48, 49, 50, 51, 52, 53, 54, 55, 56, 57, 58, 59, 60, 61, 62, 63, 64, 65, 66, 67, 68, 69, 70, 71, 72, 73, 74, 75, 76, 77, 78, 79, 80, 81, 82, 83, 84, 85] (fun k => [(12, .im none (.sc (.int .i64 k))), (8, .im none (.sc (.int .u64 ((t * p + k * (p * p) : Nat) : Int))))]) (fun k => [(7, .ar true (some false) 5 [.ag [.sc (.int .i64 t), .sc (.int .i64 a), .sc (.int .i64 p), .ls (nnL (List.range t)) 1 ((List.range t).map fun (i : Nat) => rowD n p (i * p)), .ls (nnL (List.range k)) 1 ((List.range k).map fun (i : Nat) => tabD n p (t * p + i * (p * p)))]]), (6, .ar true (some false) 5 [.ag [.sc (.int .i64 0), .sc (.int .i64 0), .sc (.int .i64 0), .ls (some true) 1 [], .ls (some true) 1 []]]), (3, .ar false (some false) 2 [.ag [.sc (.int .i64 t), .sc (.int .i64 a)]])]) (fun k => k ≤ a) (fun k => a - k) 0 (Ent.to [] (by simp only [go_sem]; rfl) rfl (by simp [nnL]) (by rfl) (by simp only [subEnv, go_sem, ↓reduceIte, Nat.reduceEqDiff, keep, memN] <;> simp)) (Nat.zero_le _) ?_
  intro k hk0
  have hpp : p * p ≤ 3 * 3 := Nat.mul_le_mul hp hp
  have hip : t * p ≤ 3 * 3 := Nat.mul_le_mul ht hp
  have hkp : k * (p * p) ≤ 4 * (3 * 3) := Nat.mul_le_mul (by omega) hpp
  by_cases hk : k < a
  ·simp +contextual -implicitDefEqProofs only [hk, D.isAg, go_sem, ↓reduceIte, Nat.reduceEqDiff, Nat.reduceAdd, Nat.reduceLeDiff, Nat.reduceBneDiff, Nat.reduceLT, Int.ofNat_lt]
   refine vc_onU (α := Nat) [8, 13, 14, 15, 16, 54, 55, 56, 57, 58, 59, 60, 61, 62, 63, 64, 65, 66, 67, 68, 69, 70, 71, 72, 73, 74, 75, 76, 77, 78, 79] (fun x => [(14, .im none (.sc (.int .i64 x))), (13, .sm 54 0 x), (8, .im none (.sc (.int .u64 ((t * p + k * (p * p) + x * p : Nat) : Int))))]) (fun x => [(54, .ar true (some false) 1 ((List.range x).map fun (y : Nat) => rowD n p (t * p + k * (p * p) + y * p))), (7, .ar true (some false) 5 [.ag [.sc (.int .i64 t), .sc (.int .i64 a), .sc (.int .i64 p), .ls (nnL (List.range t)) 1 ((List.range t).map fun (i : Nat) => rowD n p (i * p)), .ls (nnL (List.range k)) 1 ((List.range k).map fun (i : Nat) => tabD n p (t * p + i * (p * p)))]]), (6, .ar true (some false) 5 [.ag [.sc (.int .i64 0), .sc (.int .i64 0), .sc (.int .i64 0), .ls (some true) 1 [], .ls (some true) 1 []]]), (3, .ar false (some false) 2 [.ag [.sc (.int .i64 t), .sc (.int .i64 a)]])]) (fun x => x ≤ p) (fun x => p - x) 0 (Ent.to [] (by simp only [go_sem]; rfl) rfl (by simp) (by rfl) (by simp only [subEnv, go_sem, ↓reduceIte, Nat.reduceEqDiff, keep, memN] <;> simp)) (Nat.zero_le _) ?_
   intro x hx0
   have hxp : x * p ≤ 3 * 3 := Nat.mul_le_mul (by omega) hp
   by_cases hx : x < p
   ·simp +contextual -implicitDefEqProofs only [hx, go_sem, ↓reduceIte, Nat.reduceEqDiff, Nat.reduceBneDiff, Nat.reduceLT, Int.ofNat_lt]
    refine vc_onU (α := Nat) [8, 15, 16, 60, 61, 62, 63, 64, 65, 66, 67, 68, 69, 70, 71, 72, 73, 74, 75] (fun y => [(16, .im none (.sc (.int .i64 y))), (15, .sm 60 0 y), (8, .im none (.sc (.int .u64 ((t * p + k * (p * p) + x * p + y : Nat) : Int))))]) (fun y => [(60, .ar true (some false) 1 ((List.range y).map fun (z : Nat) => .sc (.bool (bitN n (t * p + k * (p * p) + x * p + z))))), (54, .ar true (some false) 1 ((List.range x).map fun (y : Nat) => rowD n p (t * p + k * (p * p) + y * p))), (7, .ar true (some false) 5 [.ag [.sc (.int .i64 t), .sc (.int .i64 a), .sc (.int .i64 p), .ls (nnL (List.range t)) 1 ((List.range t).map fun (i : Nat) => rowD n p (i * p)), .ls (nnL (List.range k)) 1 ((List.range k).map fun (i : Nat) => tabD n p (t * p + i * (p * p)))]]), (6, .ar true (some false) 5 [.ag [.sc (.int .i64 0), .sc (.int .i64 0), .sc (.int .i64 0), .ls (some true) 1 [], .ls (some true) 1 []]]), (3, .ar false (some false) 2 [.ag [.sc (.int .i64 t), .sc (.int .i64 a)]])]) (fun y => y ≤ p) (fun y => p - y) 0 (Ent.to [] (by simp only [go_sem]; rfl) rfl (by simp) (by rfl) (by simp only [subEnv, go_sem, ↓reduceIte, Nat.reduceEqDiff, keep, memN] <;> simp)) (Nat.zero_le _) ?_
    intro y hy0
    by_cases hy : y < p
    ·simp +contextual -implicitDefEqProofs only [hy, D.size, modeOf, noPtrs, List.length_map, List.length_range, go_sem, ↓reduceIte, Nat.reduceEqDiff, Nat.reduceLeDiff, Nat.reduceMul, Nat.reduceBEq, Nat.reduceBneDiff, Nat.reduceLT, Int.ofNat_lt, Int.natCast_nonneg]
     rw [show min (t * p + k * (p * p) + x * p + y) 64 = t * p + k * (p * p) + x * p + y from Nat.min_eq_left (by omega)]
     erw [bit_eq h0 h1]
     rw [wrap_u (by omega), show t * p + k * (p * p) + x * p + y + 1 = t * p + k * (p * p) + x * p + (y + 1) by omega]
     refine ⟨rfl, ⟨by omega, by unfold maxEl; omega, by simp [D.size]⟩, y + 1, by omega, by omega, ?_⟩
     rw [wrap_i64 (by omega) (by omega)]
     exact Ent.to [] (by simp only [go_sem]; rfl) rfl (by simp [List.range_succ, List.map_append]) (by rfl) (by simp only [subEnv, go_sem, ↓reduceIte, Nat.reduceEqDiff] <;> simp)
    ·obtain rfl : p = y := by omega
     simp +contextual -implicitDefEqProofs only [hy, modeOf, noPtrs, List.length_map, List.length_range, go_sem, ↓reduceIte, Nat.reduceEqDiff, Nat.reduceLeDiff, Nat.reduceMul, Nat.reduceBEq, Nat.reduceBneDiff, Nat.reduceLT, Int.ofNat_lt]
     rw [show t * p + k * (p * p) + x * p + p = t * p + k * (p * p) + (x + 1) * p by rw [Nat.succ_mul]; omega]
     refine ⟨rfl, ⟨by omega, by unfold maxEl; omega, by simp [D.size]⟩, x + 1, by omega, by omega, ?_⟩
     rw [wrap_i64 (by omega) (by omega)]
     exact Ent.to [] (by simp only [go_sem]; rfl) rfl (by simp [List.range_succ, List.map_append, rowD]) (by rfl) (by simp only [subEnv, go_sem, ↓reduceIte, Nat.reduceEqDiff] <;> simp)
   ·obtain rfl : p = x := by omega
    simp +contextual -implicitDefEqProofs only [hx, D.put, D.cells, D.size, D.isAg, modeOf, noPtrs, List.length_map, List.length_range, go_sem, ↓reduceIte, Nat.reduceEqDiff, Nat.reduceAdd, Nat.reduceLeDiff, Nat.reduceMul, Nat.reduceBEq, Nat.reduceBneDiff, Nat.reduceLT, Int.ofNat_lt]
    rw [show t * p + k * (p * p) + p * p = t * p + (k + 1) * (p * p) by rw [Nat.succ_mul]; omega]
    refine ⟨rfl, ⟨by omega, by unfold maxEl; omega, by simp [D.size]⟩, k + 1, by omega, by omega, ?_⟩
    rw [wrap_i64 (by omega) (by omega)]
    exact Ent.to [] (by simp only [go_sem]; rfl) rfl (by simp [nnL_app, List.range_succ, List.map_append, tabD]) (by rfl) (by simp only [subEnv, go_sem, ↓reduceIte, Nat.reduceEqDiff] <;> simp)
  ·obtain rfl : a = k := by omega
   simp +contextual -implicitDefEqProofs only [hk, D.put, D.size, D.sizeL, D.isAg, modeOf, noPtrs, go_sem, ↓reduceIte, Nat.reduceEqDiff, Nat.reduceAdd, Nat.reduceLeDiff, Nat.reduceBEq, Nat.reduceLT, Int.ofNat_lt]
   exact D.Le.refl _

def k_l05BitsOf : RC := (.seq (.reg false [⟨none, .box 2 2 (.t 0)⟩, ⟨none, .mv 4 (.c (.sc (.int .i64 0)))⟩]) ((.seq (.reg false [⟨none, .fa 5 0 (.t 2)⟩, ⟨none, .ld 6 false 1 (.t 5)⟩, ⟨none, .mv 7 (.t 1)⟩, ⟨none, .bin 8 .mul (.t 6) (.t 7)⟩, ⟨none, .fa 9 1 (.t 2)⟩, ⟨none, .ld 10 false 1 (.t 9)⟩, ⟨none, .mv 11 (.t 1)⟩, ⟨none, .bin 12 .mul (.t 10) (.t 11)⟩, ⟨none, .mv 13 (.t 1)⟩, ⟨none, .bin 14 .mul (.t 12) (.t 13)⟩, ⟨none, .bin 15 .add (.t 8) (.t 14)⟩, ⟨none, .mv 4 (.t 15)⟩]) (.ret))))
def K_l05BitsOf (P : Program) (fno : Nat) : Prop := ∀ (t a p : Nat) (ht : t ≤ 3) (ha : a ≤ 4) (hp : p ≤ 3), AF P fno [eG ((t : Int), (a : Int)), eI p] (.own (eI ((t * p + a * (p * p) : Nat) : Int)))
theorem a_l05BitsOf {P : Program} (hm : P.follows .mixedOrders = true) {g : Nat} (hr : resF P g = some (16, k_l05BitsOf, [.t 4])) : K_l05BitsOf P g := by
 intro t a p ht ha hp
 have h1 : t * p ≤ 3 * 3 := Nat.mul_le_mul ht hp
 have h2 : p * p ≤ 3 * 3 := Nat.mul_le_mul hp hp
 have h3 : a * (p * p) ≤ 4 * (3 * 3) := Nat.mul_le_mul ha h2
 have h4 : a * p ≤ 4 * 3 := Nat.mul_le_mul ha hp
 have e1 : IntKind.i64.wrap ((t : Int) * p) = ((t * p : Nat) : Int) := by rw [← Int.natCast_mul]; exact wrap_i64 (by omega) (by omega)
 have e2 : IntKind.i64.wrap ((a : Int) * p) = ((a * p : Nat) : Int) := by rw [← Int.natCast_mul]; exact wrap_i64 (by omega) (by omega)
 have e3 : IntKind.i64.wrap (((a * p : Nat) : Int) * p) = ((a * (p * p) : Nat) : Int) := by rw [← Int.natCast_mul, Nat.mul_assoc]; exact wrap_i64 (by omega) (by omega)
 have e4 : IntKind.i64.wrap (((t * p : Nat) : Int) + ((a * (p * p) : Nat) : Int)) = ((t * p + a * (p * p) : Nat) : Int) := by rw [← Int.natCast_add]; exact wrap_i64 (by omega) (by omega)
 refine af_of_res hr hm rfl fun hb => ?_
 simp +contextual -implicitDefEqProofs only [k_l05BitsOf, eG, eI, e1, e2, e3, e4, D.size, D.sizeL, D.isAg, D.at, D.sub, go_sem, ↓reduceIte, Nat.reduceEqDiff, Nat.reduceAdd, Nat.reduceLeDiff, Nat.reduceLT]
end Go.Ax
