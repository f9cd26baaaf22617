/- Contracts of functions of the seat, proved over the engine. No condition. -/
import Derived.Test.YtohakobkclkniaaDoorX41
import Derived.Test.YtohakobkclkniaaDoorAxO
set_option linter.unusedSimpArgs false
set_option linter.unusedVariables false
set_option linter.unnecessarySimpa false
namespace Go.Ax
set_option linter.unusedSimpArgs false
set_option maxRecDepth 20000
set_option maxHeartbeats 4000000
def eT (s : ByteArray) : D := .sc (.string s)
def d1 (n : Nat) : ByteArray := ⟨#[UInt8.ofNat (48 + n)]⟩

def decB (n : Nat) : ByteArray := if n < 10 then d1 n else d1 (n / 10) ++ d1 (n % 10)
theorem bsz {a : Array UInt8} : (ByteArray.mk a).size = a.size := rfl
theorem decB_size {n : Nat} : (decB n).size ≤ 2 := by
 unfold decB d1
 split <;> simp only [ByteArray.size_append, bsz, List.size_toArray, List.length_cons, List.length_nil] <;> omega
theorem d1_size {n : Nat} : (d1 n).size = 1 := rfl
theorem decB_lt {n : Nat} (h : n < 10) : decB n = d1 n := by simp [decB, h]
theorem decB_ge {n : Nat} (h : ¬ n < 10) : decB n = d1 (n / 10) ++ d1 (n % 10) := by simp [decB, h]
theorem u8_d {n : Nat} (h : n < 10) : IntKind.u8.wrap (IntKind.i64.wrap (48 + (n : Int))) = ((48 + n : Nat) : Int) := by
 rw [wrap_i64 (by omega) (by omega)]
 unfold IntKind.wrap
 simp [IntKind.signed, IntKind.bits]
 omega

def k_spDecimal (g : Nat) : RC := (.seq (.reg false [⟨none, .mv 2 (.c (.sc (.string ⟨#[]⟩)))⟩]) ((.seq ((.seq (.reg false [⟨none, .mv 3 (.t 0)⟩, ⟨none, .bin 4 .geq (.t 3) (.c (.sc (.int .i64 10)))⟩]) (.cond (.t 4) ((.seq (.reg true [⟨none, .mv 5 (.t 0)⟩, ⟨none, .bin 6 .quo (.t 5) (.c (.sc (.int .i64 10)))⟩, ⟨none, .call (some 7) g [(.t 6)]⟩, ⟨none, .mv 8 (.t 0)⟩, ⟨none, .bin 9 .rem (.t 8) (.c (.sc (.int .i64 10)))⟩, ⟨none, .bin 10 .add (.c (.sc (.int .i64 48))) (.t 9)⟩, ⟨none, .cvt 11 .u8 (.t 10)⟩, ⟨none, .bs 12 1 (.sc (.int .u8 0)) 1 [(0, (.t 11))]⟩, ⟨none, .cvs 13 (.t 12)⟩, ⟨none, .bin 14 .add (.t 7) (.t 13)⟩, ⟨none, .mv 2 (.t 14)⟩]) (.ret))) (.skip)))) ((.seq (.reg false [⟨none, .mv 15 (.t 0)⟩, ⟨none, .bin 16 .add (.c (.sc (.int .i64 48))) (.t 15)⟩, ⟨none, .cvt 17 .u8 (.t 16)⟩, ⟨none, .bs 18 1 (.sc (.int .u8 0)) 1 [(0, (.t 17))]⟩, ⟨none, .cvs 19 (.t 18)⟩, ⟨none, .mv 2 (.t 19)⟩]) (.ret))))))
def K_spDecimal (P : Program) (fno : Nat) : Prop := ∀ (n : Nat) (hn : n < 100), AF P fno [eI n] (.own (eT (decB n)))
theorem a_spDecimal {P : Program} (hm : P.follows .mixedOrders = true) {g : Nat} (hr : resF P g = some (20, k_spDecimal g, [.t 2])) : K_spDecimal P g := by
 intro n hn
 have h10 : ∀ n : Nat, n < 10 → AF P g [eI n] (.own (eT (decB n))) := by
  intro n hn
  refine af_of_res hr hm rfl fun hb => ?_
  have hd : ¬ ((n : Int) ≥ 10) := by omega
  simp +contextual -implicitDefEqProofs only [k_spDecimal, eI, eT, hd, D.put, D.cells, D.size, D.sizeL, D.isAg, modeOf, noPtrs, List.length_map, go_sem, eB, ↓reduceIte, Nat.reduceEqDiff, Nat.reduceAdd, Nat.reduceLeDiff, Nat.reduceMul, Nat.reduceBEq, Nat.reduceBneDiff, Nat.reduceLT, Nat.reduceSub, Int.ofNat_lt, Int.natCast_nonneg]
  refine ⟨by decide, D.Le.sc_eq ?_⟩
  rw [u8_d hn, decB_lt hn]
  rfl
 by_cases hd : n < 10
 ·exact h10 n hd
 refine af_of_res hr hm rfl fun hb => ?_
 have hd' : (n : Int) ≥ 10 := by omega
 simp +contextual -implicitDefEqProofs only [k_spDecimal, eI, eT, hd', D.put, D.cells, D.size, D.sizeL, D.isAg, modeOf, noPtrs, List.length_map, go_sem, eB, ↓reduceIte, Nat.reduceEqDiff, Nat.reduceAdd, Nat.reduceLeDiff, Nat.reduceMul, Nat.reduceBEq, Nat.reduceBneDiff, Nat.reduceLT, Nat.reduceSub, Int.ofNat_lt, Int.natCast_nonneg]
 have q1 : IntKind.i64.wrap ((n : Int).tdiv 10) = ((n / 10 : Nat) : Int) := by rw [Int.tdiv_eq_ediv_of_nonneg (by omega), wrap_i64 (by omega) (by omega)]; omega
 have q2 : (n : Int).tmod 10 = ((n % 10 : Nat) : Int) := by rw [Int.tmod_eq_emod_of_nonneg (by omega)]; omega
 rw [q1]
 refine ⟨by omega, callQ_self (ds := [eI ((n / 10 : Nat) : Int)]) (by rfl) (h10 (n / 10) (by omega)) ?_⟩
 simp +contextual -implicitDefEqProofs only [k_spDecimal, eI, eT, q2, decB_lt (show n / 10 < 10 by omega), D.put, D.cells, D.size, D.sizeL, D.isAg, modeOf, noPtrs, List.length_map, go_sem, eB, ↓reduceIte, Nat.reduceEqDiff, Nat.reduceAdd, Nat.reduceLeDiff, Nat.reduceMul, Nat.reduceBEq, Nat.reduceBneDiff, Nat.reduceLT, Nat.reduceSub, Int.ofNat_lt, Int.natCast_nonneg]
 refine ⟨by omega, by decide, ⟨by rw [d1_size]; exact (by omega : 1 + 1 ≤ 9223372036854775807), D.Le.sc_eq ?_⟩⟩
 rw [u8_d (by omega), decB_ge hd]
 rfl
theorem sm1 : ∀ n : Fin 10, (ByteArray.mk #[48, 49, 50, 51, 52, 53, 54, 55, 56, 57, 97, 98, 99, 100, 101, 102, 103, 104, 105, 106, 107, 108, 109, 110, 111, 112, 113, 114, 115, 116, 117, 118, 119, 120, 121, 122]).extract n.1 (n.1 + 1) = decB n.1 := by decide
theorem sm2 : ∀ n : Fin 100, ¬ n.1 < 10 → (ByteArray.mk #[48, 48, 48, 49, 48, 50, 48, 51, 48, 52, 48, 53, 48, 54, 48, 55, 48, 56, 48, 57, 49, 48, 49, 49, 49, 50, 49, 51, 49, 52, 49, 53, 49, 54, 49, 55, 49, 56, 49, 57, 50, 48, 50, 49, 50, 50, 50, 51, 50, 52, 50, 53, 50, 54, 50, 55, 50, 56, 50, 57, 51, 48, 51, 49, 51, 50, 51, 51, 51, 52, 51, 53, 51, 54, 51, 55, 51, 56, 51, 57, 52, 48, 52, 49, 52, 50, 52, 51, 52, 52, 52, 53, 52, 54, 52, 55, 52, 56, 52, 57, 53, 48, 53, 49, 53, 50, 53, 51, 53, 52, 53, 53, 53, 54, 53, 55, 53, 56, 53, 57, 54, 48, 54, 49, 54, 50, 54, 51, 54, 52, 54, 53, 54, 54, 54, 55, 54, 56, 54, 57, 55, 48, 55, 49, 55, 50, 55, 51, 55, 52, 55, 53, 55, 54, 55, 55, 55, 56, 55, 57, 56, 48, 56, 49, 56, 50, 56, 51, 56, 52, 56, 53, 56, 54, 56, 55, 56, 56, 56, 57, 57, 48, 57, 49, 57, 50, 57, 51, 57, 52, 57, 53, 57, 54, 57, 55, 57, 56, 57, 57]).extract (n.1 * 2) (n.1 * 2 + 2) = decB n.1 := by decide +kernel

def k_small : RC := (.seq (.reg false [⟨none, .mv 2 (.c (.sc (.string ⟨#[]⟩)))⟩]) ((.seq ((.seq (.reg false [⟨none, .mv 3 (.t 0)⟩, ⟨none, .bin 4 .lss (.t 3) (.c (.sc (.int .i64 10)))⟩]) (.cond (.t 4) ((.seq (.reg false [⟨none, .mv 5 (.t 0)⟩, ⟨none, .mv 6 (.t 0)⟩, ⟨none, .bin 7 .add (.t 6) (.c (.sc (.int .i64 1)))⟩, ⟨none, .sls 8 (.c (.sc (.string ⟨#[48, 49, 50, 51, 52, 53, 54, 55, 56, 57, 97, 98, 99, 100, 101, 102, 103, 104, 105, 106, 107, 108, 109, 110, 111, 112, 113, 114, 115, 116, 117, 118, 119, 120, 121, 122]⟩))) (some (.t 5)) (some (.t 7))⟩, ⟨none, .mv 2 (.t 8)⟩]) (.ret))) (.skip)))) ((.seq (.reg false [⟨none, .mv 9 (.t 0)⟩, ⟨none, .bin 10 .mul (.t 9) (.c (.sc (.int .i64 2)))⟩, ⟨none, .mv 11 (.t 0)⟩, ⟨none, .bin 12 .mul (.t 11) (.c (.sc (.int .i64 2)))⟩, ⟨none, .bin 13 .add (.t 12) (.c (.sc (.int .i64 2)))⟩, ⟨none, .sls 14 (.c (.sc (.string ⟨#[48, 48, 48, 49, 48, 50, 48, 51, 48, 52, 48, 53, 48, 54, 48, 55, 48, 56, 48, 57, 49, 48, 49, 49, 49, 50, 49, 51, 49, 52, 49, 53, 49, 54, 49, 55, 49, 56, 49, 57, 50, 48, 50, 49, 50, 50, 50, 51, 50, 52, 50, 53, 50, 54, 50, 55, 50, 56, 50, 57, 51, 48, 51, 49, 51, 50, 51, 51, 51, 52, 51, 53, 51, 54, 51, 55, 51, 56, 51, 57, 52, 48, 52, 49, 52, 50, 52, 51, 52, 52, 52, 53, 52, 54, 52, 55, 52, 56, 52, 57, 53, 48, 53, 49, 53, 50, 53, 51, 53, 52, 53, 53, 53, 54, 53, 55, 53, 56, 53, 57, 54, 48, 54, 49, 54, 50, 54, 51, 54, 52, 54, 53, 54, 54, 54, 55, 54, 56, 54, 57, 55, 48, 55, 49, 55, 50, 55, 51, 55, 52, 55, 53, 55, 54, 55, 55, 55, 56, 55, 57, 56, 48, 56, 49, 56, 50, 56, 51, 56, 52, 56, 53, 56, 54, 56, 55, 56, 56, 56, 57, 57, 48, 57, 49, 57, 50, 57, 51, 57, 52, 57, 53, 57, 54, 57, 55, 57, 56, 57, 57]⟩))) (some (.t 10)) (some (.t 13))⟩, ⟨none, .mv 2 (.t 14)⟩]) (.ret))))))
def K_small (P : Program) (fno : Nat) : Prop := ∀ (n : Nat) (hn : n < 100), AF P fno [eI n] (.own (eT (decB n)))
theorem a_small {P : Program} (hm : P.follows .mixedOrders = true) {g : Nat} (hr : resF P g = some (15, k_small, [.t 2])) : K_small P g := by
 intro n hn
 refine af_of_res hr hm rfl fun hb => ?_
 by_cases hd : n < 10
 ·have hd' : (n : Int) < 10 := by omega
  have e := sm1 ⟨n, hd⟩
  simp only at e
  simp +contextual -implicitDefEqProofs only [k_small, eI, eT, hd', D.put, D.cells, D.size, D.sizeL, D.isAg, modeOf, noPtrs, List.length_map, go_sem, eB, ↓reduceIte, Nat.reduceEqDiff, Nat.reduceAdd, Nat.reduceLeDiff, Nat.reduceMul, Nat.reduceBEq, Nat.reduceBneDiff, Nat.reduceLT, Nat.reduceSub, Int.ofNat_lt, Int.natCast_nonneg]
  rw [show IntKind.i64.wrap ((n : Int) + 1) = ((n + 1 : Nat) : Int) by rw [wrap_i64 (by omega) (by omega)]; omega]
  refine ⟨⟨by omega, ?_⟩, D.Le.sc_eq ?_⟩
  ·show ((n + 1 : Nat) : Int) ≤ ((36 : Nat) : Int)
   omega
  ·exact congrArg _ e
 ·have hd' : ¬ (n : Int) < 10 := by omega
  have e := sm2 ⟨n, hn⟩ hd
  simp only at e
  simp +contextual -implicitDefEqProofs only [k_small, eI, eT, hd', D.put, D.cells, D.size, D.sizeL, D.isAg, modeOf, noPtrs, List.length_map, go_sem, eB, ↓reduceIte, Nat.reduceEqDiff, Nat.reduceAdd, Nat.reduceLeDiff, Nat.reduceMul, Nat.reduceBEq, Nat.reduceBneDiff, Nat.reduceLT, Nat.reduceSub, Int.ofNat_lt, Int.natCast_nonneg]
  rw [show IntKind.i64.wrap ((n : Int) * 2) = ((n * 2 : Nat) : Int) by rw [wrap_i64 (by omega) (by omega)]; omega, show IntKind.i64.wrap (((n * 2 : Nat) : Int) + 2) = ((n * 2 + 2 : Nat) : Int) by rw [wrap_i64 (by omega) (by omega)]; omega]
  refine ⟨⟨by omega, by omega, ?_⟩, D.Le.sc_eq ?_⟩
  ·show ((n * 2 + 2 : Nat) : Int) ≤ ((200 : Nat) : Int)
   omega
  ·exact congrArg _ e

def k_formatInt (f1 f2 f3 f4 : Nat) (o1 o2 o3 o4 : Oper) : RC := (.seq (.reg false [⟨none, .mv 4 (.c (.sc (.string ⟨#[]⟩)))⟩]) ((.seq ((.seq (.reg false [⟨none, .mv 10 (.t 1)⟩, ⟨none, .bin 11 .eql (.t 10) (.c (.sc (.int .i64 10)))⟩]) (.cond (.t 11) ((.seq ((.seq (.reg false [⟨none, .mv 12 (.t 0)⟩, ⟨none, .bin 13 .leq (.c (.sc (.int .i64 0))) (.t 12)⟩, ⟨none, .mv 14 (.t 13)⟩, ⟨some (14, true), .mv 15 (.t 0)⟩, ⟨some (14, true), .bin 16 .lss (.t 15) (.c (.sc (.int .i64 100)))⟩, ⟨none, .pick 17 (.t 14) (.t 16) (.c (.sc (.bool false)))⟩]) (.cond (.t 17) ((.seq (.reg false [⟨none, .mv 18 (.t 0)⟩, ⟨none, .call (some 19) f1 [(.t 18)]⟩, ⟨none, .mv 4 (.t 19)⟩]) (.ret))) (.skip)))) ((.seq (.reg false [⟨none, .zer 5 24 (.ag [(.sc (.int .u8 0)), (.sc (.int .u8 0)), (.sc (.int .u8 0)), (.sc (.int .u8 0)), (.sc (.int .u8 0)), (.sc (.int .u8 0)), (.sc (.int .u8 0)), (.sc (.int .u8 0)), (.sc (.int .u8 0)), (.sc (.int .u8 0)), (.sc (.int .u8 0)), (.sc (.int .u8 0)), (.sc (.int .u8 0)), (.sc (.int .u8 0)), (.sc (.int .u8 0)), (.sc (.int .u8 0)), (.sc (.int .u8 0)), (.sc (.int .u8 0)), (.sc (.int .u8 0)), (.sc (.int .u8 0)), (.sc (.int .u8 0)), (.sc (.int .u8 0)), (.sc (.int .u8 0)), (.sc (.int .u8 0))])⟩]) ((.seq (.reg false [⟨none, .mv 20 (.t 0)⟩, ⟨none, .cvt 21 .u64 (.t 20)⟩, ⟨none, .mv 6 (.t 21)⟩]) ((.seq ((.seq (.reg false [⟨none, .mv 22 (.t 0)⟩, ⟨none, .bin 23 .lss (.t 22) (.c (.sc (.int .i64 0)))⟩]) (.cond (.t 23) (.reg false [⟨none, .mv 24 (.t 6)⟩, ⟨none, .un 25 .neg (.t 24)⟩, ⟨none, .mv 6 (.t 25)⟩]) (.skip)))) ((.seq (.reg false [⟨none, .mv 26 (.t 6)⟩, ⟨none, .call (some 27) f2 [(.t 26)]⟩, ⟨none, .mv 7 (.t 27)⟩]) ((.seq (.reg false [⟨none, .mv 28 (.t 7)⟩, ⟨none, .bin 29 .add (.c (.sc (.int .i64 1))) (.t 28)⟩, ⟨none, .other o1⟩, ⟨none, .mv 31 (.t 6)⟩, ⟨none, .call (some 32) f3 [(.t 30), (.t 31)]⟩]) ((.seq ((.seq (.reg false [⟨none, .mv 33 (.t 0)⟩, ⟨none, .bin 34 .lss (.t 33) (.c (.sc (.int .i64 0)))⟩]) (.cond (.t 34) ((.seq (.reg false [⟨none, .other o2⟩, ⟨none, .st 1 (.t 35) (.c (.sc (.int .u8 45)))⟩]) ((.seq (.reg false [⟨none, .mv 36 (.t 7)⟩, ⟨none, .bin 37 .add (.c (.sc (.int .i64 1))) (.t 36)⟩, ⟨none, .other o3⟩, ⟨none, .cvs 39 (.t 38)⟩, ⟨none, .mv 4 (.t 39)⟩]) (.ret))))) (.skip)))) ((.seq (.reg false [⟨none, .mv 40 (.t 7)⟩, ⟨none, .bin 41 .add (.c (.sc (.int .i64 1))) (.t 40)⟩, ⟨none, .other o4⟩, ⟨none, .cvs 43 (.t 42)⟩, ⟨none, .mv 4 (.t 43)⟩]) (.ret))))))))))))))))) (.skip)))) ((.seq (.reg false [⟨none, .mv 45 (.t 0)⟩, ⟨none, .cvt 46 .u64 (.t 45)⟩, ⟨none, .mv 47 (.t 1)⟩, ⟨none, .mv 48 (.t 0)⟩, ⟨none, .bin 49 .lss (.t 48) (.c (.sc (.int .i64 0)))⟩, ⟨none, .call (some 50) f4 [(.c (.ls (some true) 1 [])), (.t 46), (.t 47), (.t 49), (.c (.sc (.bool false)))]⟩, ⟨none, .mv 44 (.t 50)⟩, ⟨none, .ext 51 (.t 44) 0⟩, ⟨none, .ext 52 (.t 44) 1⟩, ⟨none, .mv 8 (.t 51)⟩, ⟨none, .mv 9 (.t 52)⟩]) ((.seq (.reg false [⟨none, .mv 53 (.t 9)⟩, ⟨none, .mv 4 (.t 53)⟩]) (.ret))))))))
def K_formatInt (P : Program) (fno : Nat) : Prop := ∀ (n : Nat) (hn : n < 100), AF P fno [eI n, eI 10] (.own (eT (decB n)))
theorem a_formatInt {P : Program} (hm : P.follows .mixedOrders = true) {g f1 f2 f3 f4 : Nat} {o1 o2 o3 o4 : Oper} (hr : resF P g = some (54, k_formatInt f1 f2 f3 f4 o1 o2 o3 o4, [.t 4])) (hc1 : K_small P f1) : K_formatInt P g := by
 intro n hn
 have h0 : (0 : Int) ≤ n := by omega
 have h1 : (n : Int) < 100 := by omega
 refine af_of_res hr hm rfl fun hb => ?_
 simp +contextual -implicitDefEqProofs only [k_formatInt, eI, eT, h0, h1, D.put, D.cells, D.size, D.sizeL, D.isAg, modeOf, noPtrs, List.length_map, go_sem, eB, ↓reduceIte, Nat.reduceEqDiff, Nat.reduceAdd, Nat.reduceLeDiff, Nat.reduceMul, Nat.reduceBEq, Nat.reduceBneDiff, Nat.reduceLT, Nat.reduceSub, Int.ofNat_lt, Int.natCast_nonneg]
 refine callQ_self (ds := [eI n]) (by rfl) (hc1 n hn) ?_
 simp +contextual -implicitDefEqProofs only [eI, eT, D.put, D.cells, D.size, D.sizeL, D.isAg, modeOf, noPtrs, List.length_map, go_sem, eB, ↓reduceIte, Nat.reduceEqDiff, Nat.reduceAdd, Nat.reduceLeDiff, Nat.reduceMul, Nat.reduceBEq, Nat.reduceBneDiff, Nat.reduceLT, Nat.reduceSub, Int.ofNat_lt, Int.natCast_nonneg]

def k_formatIntS (f1 : Nat) : RC := (.seq (.reg false [⟨none, .mv 4 (.c (.sc (.string ⟨#[]⟩)))⟩]) ((.seq (.reg false [⟨none, .mv 5 (.t 0)⟩, ⟨none, .mv 6 (.t 1)⟩, ⟨none, .call (some 7) f1 [(.t 5), (.t 6)]⟩, ⟨none, .mv 4 (.t 7)⟩]) (.ret))))
def K_formatIntS (P : Program) (fno : Nat) : Prop := ∀ (n : Nat) (hn : n < 100), AF P fno [eI n, eI 10] (.own (eT (decB n)))
theorem a_formatIntS {P : Program} (hm : P.follows .mixedOrders = true) {g f1 : Nat} (hr : resF P g = some (8, k_formatIntS f1, [.t 4])) (hc1 : K_formatInt P f1) : K_formatIntS P g := by
 intro n hn
 refine af_of_res hr hm rfl fun hb => ?_
 simp +contextual -implicitDefEqProofs only [k_formatIntS, eI, eT, D.put, D.cells, D.size, D.sizeL, D.isAg, modeOf, noPtrs, List.length_map, go_sem, eB, ↓reduceIte, Nat.reduceEqDiff, Nat.reduceAdd, Nat.reduceLeDiff, Nat.reduceMul, Nat.reduceBEq, Nat.reduceBneDiff, Nat.reduceLT, Nat.reduceSub, Int.ofNat_lt, Int.natCast_nonneg]
 refine callQ_self (ds := [eI n, eI 10]) (by rfl) (hc1 n hn) ?_
 simp +contextual -implicitDefEqProofs only [eI, eT, D.put, D.cells, D.size, D.sizeL, D.isAg, modeOf, noPtrs, List.length_map, go_sem, eB, ↓reduceIte, Nat.reduceEqDiff, Nat.reduceAdd, Nat.reduceLeDiff, Nat.reduceMul, Nat.reduceBEq, Nat.reduceBneDiff, Nat.reduceLT, Nat.reduceSub, Int.ofNat_lt, Int.natCast_nonneg]

def k_imDecimal (f1 : Nat) : RC := (.seq (.reg false [⟨none, .mv 2 (.c (.sc (.string ⟨#[]⟩)))⟩]) ((.seq (.reg false [⟨none, .mv 3 (.t 0)⟩, ⟨none, .call (some 4) f1 [(.t 3), (.c (.sc (.int .i64 10)))]⟩, ⟨none, .mv 2 (.t 4)⟩]) (.ret))))
def K_imDecimal (P : Program) (fno : Nat) : Prop := ∀ (n : Nat) (hn : n < 100), AF P fno [eI n] (.own (eT (decB n)))
theorem a_imDecimal {P : Program} (hm : P.follows .mixedOrders = true) {g f1 : Nat} (hr : resF P g = some (5, k_imDecimal f1, [.t 2])) (hc1 : K_formatIntS P f1) : K_imDecimal P g := by
 intro n hn
 refine af_of_res hr hm rfl fun hb => ?_
 simp +contextual -implicitDefEqProofs only [k_imDecimal, eI, eT, D.put, D.cells, D.size, D.sizeL, D.isAg, modeOf, noPtrs, List.length_map, go_sem, eB, ↓reduceIte, Nat.reduceEqDiff, Nat.reduceAdd, Nat.reduceLeDiff, Nat.reduceMul, Nat.reduceBEq, Nat.reduceBneDiff, Nat.reduceLT, Nat.reduceSub, Int.ofNat_lt, Int.natCast_nonneg]
 refine callQ_self (ds := [eI n, eI 10]) (by rfl) (hc1 n hn) ?_
 simp +contextual -implicitDefEqProofs only [eI, eT, D.put, D.cells, D.size, D.sizeL, D.isAg, modeOf, noPtrs, List.length_map, go_sem, eB, ↓reduceIte, Nat.reduceEqDiff, Nat.reduceAdd, Nat.reduceLeDiff, Nat.reduceMul, Nat.reduceBEq, Nat.reduceBneDiff, Nat.reduceLT, Nat.reduceSub, Int.ofNat_lt, Int.natCast_nonneg]
def b1 (b : Bool) : ByteArray := if b then ⟨#[49]⟩ else ⟨#[48]⟩
theorem foldl_take {α β : Type} {f : β → α → β} {s : β} {l : List α} {i : Nat} (h : i < l.length) : (l.take (i + 1)).foldl f s = f ((l.take i).foldl f s) l[i] := by
 rw [List.take_succ_eq_append_getElem h]
 simp only [List.foldl_append, List.foldl_cons, List.foldl_nil]
theorem foldl_size {α : Type} {f : ByteArray → α → ByteArray} {c : Nat} : ∀ (l : List α) (s : ByteArray), (∀ s x, x ∈ l → (f s x).size ≤ s.size + c) → (l.foldl f s).size ≤ s.size + c * l.length
 | [], s, _ => by simp
 | x :: l, s, h => by
  rw [List.foldl_cons]
  have h1 := foldl_size (f := f) (c := c) l (f s x) (fun s y hy => h s y (List.mem_cons_of_mem _ hy))
  have h2 := h s x List.mem_cons_self
  rw [List.length_cons, Nat.mul_succ]
  omega
end Go.Ax
