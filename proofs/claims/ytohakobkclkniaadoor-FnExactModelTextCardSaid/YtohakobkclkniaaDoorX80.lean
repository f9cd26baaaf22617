/- Contracts of functions of the seat, proved over the engine. No condition. -/
import Derived.Test.YtohakobkclkniaaDoorX41
import Derived.Test.YtohakobkclkniaaDoorAxO
set_option linter.unusedSimpArgs false
set_option linter.unusedVariables false
set_option linter.unnecessarySimpa false
namespace Go.Ax
set_option linter.unusedSimpArgs false
set_option maxRecDepth 20000
set_option maxHeartbeats 4000000
def eT (s : ByteArray) : D := .sc (.string s)
def d1 (n : Nat) : ByteArray := ⟨#[UInt8.ofNat (48 + n)]⟩

def decB (n : Nat) : ByteArray := if n < 10 then d1 n else d1 (n / 10) ++ d1 (n % 10)
theorem bsz {a : Array UInt8} : (ByteArray.mk a).size = a.size := rfl
theorem decB_size {n : Nat} : (decB n).size ≤ 2 := by
 unfold decB d1
 split <;> simp only [ByteArray.size_append, bsz, List.size_toArray, List.length_cons, List.length_nil] <;> omega
theorem d1_size {n : Nat} : (d1 n).size = 1 := rfl
theorem decB_lt {n : Nat} (h : n < 10) : decB n = d1 n := by simp [decB, h]
theorem decB_ge {n : Nat} (h : ¬ n < 10) : decB n = d1 (n / 10) ++ d1 (n % 10) := by simp [decB, h]
theorem u8_d {n : Nat} (h : n < 10) : IntKind.u8.wrap (IntKind.i64.wrap (48 + (n : Int))) = ((48 + n : Nat) : Int) := by
 rw [wrap_i64 (by omega) (by omega)]
 unfold IntKind.wrap
 simp [IntKind.signed, IntKind.bits]
 omega

def k_spDecimal (g : Nat) : RC := (.seq (.reg false [⟨none, .mv 2 (.c (.sc (.string ⟨#[]⟩)))⟩]) ((.seq ((.seq (.reg false [⟨none, .mv 3 (.t 0)⟩, ⟨none, .bin 4 .geq (.t 3) (.c (.sc (.int .i64 10)))⟩]) (.cond (.t 4) ((.seq (.reg true [⟨none, .mv 5 (.t 0)⟩, ⟨none, .bin 6 .quo (.t 5) (.c (.sc (.int .i64 10)))⟩, ⟨none, .call (some 7) g [(.t 6)]⟩, ⟨none, .mv 8 (.t 0)⟩, ⟨none, .bin 9 .rem (.t 8) (.c (.sc (.int .i64 10)))⟩, ⟨none, .bin 10 .add (.c (.sc (.int .i64 48))) (.t 9)⟩, ⟨none, .cvt 11 .u8 (.t 10)⟩, ⟨none, .bs 12 1 (.sc (.int .u8 0)) 1 [(0, (.t 11))]⟩, ⟨none, .cvs 13 (.t 12)⟩, ⟨none, .bin 14 .add (.t 7) (.t 13)⟩, ⟨none, .mv 2 (.t 14)⟩]) (.ret))) (.skip)))) ((.seq (.reg false [⟨none, .mv 15 (.t 0)⟩, ⟨none, .bin 16 .add (.c (.sc (.int .i64 48))) (.t 15)⟩, ⟨none, .cvt 17 .u8 (.t 16)⟩, ⟨none, .bs 18 1 (.sc (.int .u8 0)) 1 [(0, (.t 17))]⟩, ⟨none, .cvs 19 (.t 18)⟩, ⟨none, .mv 2 (.t 19)⟩]) (.ret))))))
def K_spDecimal (P : Program) (fno : Nat) : Prop := ∀ (n : Nat) (hn : n < 100), AF P fno [eI n] (.own (eT (decB n)))
theorem a_spDecimal {P : Program} (hm : P.follows .mixedOrders = true) {g : Nat} (hr : resF P g = some (20, k_spDecimal g, [.t 2])) : K_spDecimal P g := by
 intro n hn
 have h10 : ∀ n : Nat, n < 10 → AF P g [eI n] (.own (eT (decB n))) := by
  intro n hn
  refine af_of_res hr hm rfl fun hb => ?_
  have hd : ¬ ((n : Int) ≥ 10) := by omega
  simp +contextual -implicitDefEqProofs only [k_spDecimal, eI, eT, hd, D.put, D.cells, D.size, D.sizeL, D.isAg, modeOf, noPtrs, List.length_map, go_sem, eB, ↓reduceIte, Nat.reduceEqDiff, Nat.reduceAdd, Nat.reduceLeDiff, Nat.reduceMul, Nat.reduceBEq, Nat.reduceBneDiff, Nat.reduceLT, Nat.reduceSub, Int.ofNat_lt, Int.natCast_nonneg]
  refine ⟨by decide, D.Le.sc_eq ?_⟩
  rw [u8_d hn, decB_lt hn]
  rfl
 by_cases hd : n < 10
 ·exact h10 n hd
 refine af_of_res hr hm rfl fun hb => ?_
 have hd' : (n : Int) ≥ 10 := by omega
 simp +contextual -implicitDefEqProofs only [k_spDecimal, eI, eT, hd', D.put, D.cells, D.size, D.sizeL, D.isAg, modeOf, noPtrs, List.length_map, go_sem, eB, ↓reduceIte, Nat.reduceEqDiff, Nat.reduceAdd, Nat.reduceLeDiff, Nat.reduceMul, Nat.reduceBEq, Nat.reduceBneDiff, Nat.reduceLT, Nat.reduceSub, Int.ofNat_lt, Int.natCast_nonneg]
 have q1 : IntKind.i64.wrap ((n : Int).tdiv 10) = ((n / 10 : Nat) : Int) := by rw [Int.tdiv_eq_ediv_of_nonneg (by omega), wrap_i64 (by omega) (by omega)]; omega
 have q2 : (n : Int).tmod 10 = ((n % 10 : Nat) : Int) := by rw [Int.tmod_eq_emod_of_nonneg (by omega)]; omega
 rw [q1]
 refine ⟨by omega, callQ_self (ds := [eI ((n / 10 : Nat) : Int)]) (by rfl) (h10 (n / 10) (by omega)) ?_⟩
 simp +contextual -implicitDefEqProofs only [k_spDecimal, eI, eT, q2, decB_lt (show n / 10 < 10 by omega), D.put, D.cells, D.size, D.sizeL, D.isAg, modeOf, noPtrs, List.length_map, go_sem, eB, ↓reduceIte, Nat.reduceEqDiff, Nat.reduceAdd, Nat.reduceLeDiff, Nat.reduceMul, Nat.reduceBEq, Nat.reduceBneDiff, Nat.reduceLT, Nat.reduceSub, Int.ofNat_lt, Int.natCast_nonneg]
 refine ⟨by omega, by decide, ⟨by rw [d1_size]; exact (by omega : 1 + 1 ≤ 9223372036854775807), D.Le.sc_eq ?_⟩⟩
 rw [u8_d (by omega), decB_ge hd]
 rfl
theorem sm1 : ∀ n : Fin 10, (ByteArray.mk #[48, 49, 50, 51, 52, 53, 54, 55, 56, 57, 97, 98, 99, 100, 101, 102, 103, 104, 105, 106, 107, 108, 109, 110, 111, 112, 113, 114, 115, 116, 117, 118, 119, 120, 121, 122]).extract n.1 (n.1 + 1) = decB n.1 := by decide
theorem sm2 : ∀ n : Fin 100, ¬ n.1 < 10 → (ByteArray.mk #[48, 48, 48, 49, 48, 50, 48, 51, 48, 52, 48, 53, 48, 54, 48, 55, 48, 56, 48, 57, 49, 48, 49, 49, 49, 50, 49, 51, 49, 52, 49, 53, 49, 54, 49, 55, 49, 56, 49, 57, 50, 48, 50, 49, 50, 50, 50, 51, 50, 52, 50, 53, 50, 54, 50, 55, 50, 56, 50, 57, 51, 48, 51, 49, 51, 50, 51, 51, 51, 52, 51, 53, 51, 54, 51, 55, 51, 56, 51, 57, 52, 48, 52, 49, 52, 50, 52, 51, 52, 52, 52, 53, 52, 54, 52, 55, 52, 56, 52, 57, 53, 48, 53, 49, 53, 50, 53, 51, 53, 52, 53, 53, 53, 54, 53, 55, 53, 56, 53, 57, 54, 48, 54, 49, 54, 50, 54, 51, 54, 52, 54, 53, 54, 54, 54, 55, 54, 56, 54, 57, 55, 48, 55, 49, 55, 50, 55, 51, 55, 52, 55, 53, 55, 54, 55, 55, 55, 56, 55, 57, 56, 48, 56, 49, 56, 50, 56, 51, 56, 52, 56, 53, 56, 54, 56, 55, 56, 56, 56, 57, 57, 48, 57, 49, 57, 50, 57, 51, 57, 52, 57, 53, 57, 54, 57, 55, 57, 56, 57, 57]).extract (n.1 * 2) (n.1 * 2 + 2) = decB n.1 := by decide +kernel

def k_small : RC := (.seq (.reg false [⟨none, .mv 2 (.c (.sc (.string ⟨#[]⟩)))⟩]) ((.seq ((.seq (.reg false [⟨none, .mv 3 (.t 0)⟩, ⟨none, .bin 4 .lss (.t 3) (.c (.sc (.int .i64 10)))⟩]) (.cond (.t 4) ((.seq (.reg false [⟨none, .mv 5 (.t 0)⟩, ⟨none, .mv 6 (.t 0)⟩, ⟨none, .bin 7 .add (.t 6) (.c (.sc (.int .i64 1)))⟩, ⟨none, .sls 8 (.c (.sc (.string ⟨#[48, 49, 50, 51, 52, 53, 54, 55, 56, 57, 97, 98, 99, 100, 101, 102, 103, 104, 105, 106, 107, 108, 109, 110, 111, 112, 113, 114, 115, 116, 117, 118, 119, 120, 121, 122]⟩))) (some (.t 5)) (some (.t 7))⟩, ⟨none, .mv 2 (.t 8)⟩]) (.ret))) (.skip)))) ((.seq (.reg false [⟨none, .mv 9 (.t 0)⟩, ⟨none, .bin 10 .mul (.t 9) (.c (.sc (.int .i64 2)))⟩, ⟨none, .mv 11 (.t 0)⟩, ⟨none, .bin 12 .mul (.t 11) (.c (.sc (.int .i64 2)))⟩, ⟨none, .bin 13 .add (.t 12) (.c (.sc (.int .i64 2)))⟩, ⟨none, .sls 14 (.c (.sc (.string ⟨#[48, 48, 48, 49, 48, 50, 48, 51, 48, 52, 48, 53, 48, 54, 48, 55, 48, 56, 48, 57, 49, 48, 49, 49, 49, 50, 49, 51, 49, 52, 49, 53, 49, 54, 49, 55, 49, 56, 49, 57, 50, 48, 50, 49, 50, 50, 50, 51, 50, 52, 50, 53, 50, 54, 50, 55, 50, 56, 50, 57, 51, 48, 51, 49, 51, 50, 51, 51, 51, 52, 51, 53, 51, 54, 51, 55, 51, 56, 51, 57, 52, 48, 52, 49, 52, 50, 52, 51, 52, 52, 52, 53, 52, 54, 52, 55, 52, 56, 52, 57, 53, 48, 53, 49, 53, 50, 53, 51, 53, 52, 53, 53, 53, 54, 53, 55, 53, 56, 53, 57, 54, 48, 54, 49, 54, 50, 54, 51, 54, 52, 54, 53, 54, 54, 54, 55, 54, 56, 54, 57, 55, 48, 55, 49, 55, 50, 55, 51, 55, 52, 55, 53, 55, 54, 55, 55, 55, 56, 55, 57, 56, 48, 56, 49, 56, 50, 56, 51, 56, 52, 56, 53, 56, 54, 56, 55, 56, 56, 56, 57, 57, 48, 57, 49, 57, 50, 57, 51, 57, 52, 57, 53, 57, 54, 57, 55, 57, 56, 57, 57]⟩))) (some (.t 10)) (some (.t 13))⟩, ⟨none, .mv 2 (.t 14)⟩]) (.ret))))))
def K_small (P : Program) (fno : Nat) : Prop := ∀ (n : Nat) (hn : n < 100), AF P fno [eI n] (.own (eT (decB n)))
theorem a_small {P : Program} (hm : P.follows .mixedOrders = true) {g : Nat} (hr : resF P g = some (15, k_small, [.t 2])) : K_small P g := by
 intro n hn
 refine af_of_res hr hm rfl fun hb => ?_
 by_cases hd : n < 10
 ·have hd' : (n : Int) < 10 := by omega
  have e := sm1 ⟨n, hd⟩
  simp only at e
  simp +contextual -implicitDefEqProofs only [k_small, eI, eT, hd', D.put, D.cells, D.size, D.sizeL, D.isAg, modeOf, noPtrs, List.length_map, go_sem, eB, ↓reduceIte, Nat.reduceEqDiff, Nat.reduceAdd, Nat.reduceLeDiff, Nat.reduceMul, Nat.reduceBEq, Nat.reduceBneDiff, Nat.reduceLT, Nat.reduceSub, Int.ofNat_lt, Int.natCast_nonneg]
  rw [show IntKind.i64.wrap ((n : Int) + 1) = ((n + 1 : Nat) : Int) by rw [wrap_i64 (by omega) (by omega)]; omega]
  refine ⟨⟨by omega, ?_⟩, D.Le.sc_eq ?_⟩
  ·show ((n + 1 : Nat) : Int) ≤ ((36 : Nat) : Int)
   omega
  ·exact congrArg _ e
 ·have hd' : ¬ (n : Int) < 10 := by omega
  have e := sm2 ⟨n, hn⟩ hd
  simp only at e
  simp +contextual -implicitDefEqProofs only [k_small, eI, eT, hd', D.put, D.cells, D.size, D.sizeL, D.isAg, modeOf, noPtrs, List.length_map, go_sem, eB, ↓reduceIte, Nat.reduceEqDiff, Nat.reduceAdd, Nat.reduceLeDiff, Nat.reduceMul, Nat.reduceBEq, Nat.reduceBneDiff, Nat.reduceLT, Nat.reduceSub, Int.ofNat_lt, Int.natCast_nonneg]
  rw [show IntKind.i64.wrap ((n : Int) * 2) = ((n * 2 : Nat) : Int) by rw [wrap_i64 (by omega) (by omega)]; omega, show IntKind.i64.wrap (((n * 2 : Nat) : Int) + 2) = ((n * 2 + 2 : Nat) : Int) by rw [wrap_i64 (by omega) (by omega)]; omega]
  refine ⟨⟨by omega, by omega, ?_⟩, D.Le.sc_eq ?_⟩
  ·show ((n * 2 + 2 : Nat) : Int) ≤ ((200 : Nat) : Int)
   omega
  ·exact congrArg _ e

def k_formatInt (f1 f2 f3 f4 : Nat) (o1 o2 o3 o4 : Oper) : RC := (.seq (.reg false [⟨none, .mv 4 (.c (.sc (.string ⟨#[]⟩)))⟩]) ((.seq ((.seq (.reg false [⟨none, .mv 10 (.t 1)⟩, ⟨none, .bin 11 .eql (.t 10) (.c (.sc (.int .i64 10)))⟩]) (.cond (.t 11) ((.seq ((.seq (.reg false [⟨none, .mv 12 (.t 0)⟩, ⟨none, .bin 13 .leq (.c (.sc (.int .i64 0))) (.t 12)⟩, ⟨none, .mv 14 (.t 13)⟩, ⟨some (14, true), .mv 15 (.t 0)⟩, ⟨some (14, true), .bin 16 .lss (.t 15) (.c (.sc (.int .i64 100)))⟩, ⟨none, .pick 17 (.t 14) (.t 16) (.c (.sc (.bool false)))⟩]) (.cond (.t 17) ((.seq (.reg false [⟨none, .mv 18 (.t 0)⟩, ⟨none, .call (some 19) f1 [(.t 18)]⟩, ⟨none, .mv 4 (.t 19)⟩]) (.ret))) (.skip)))) ((.seq (.reg false [⟨none, .zer 5 24 (.ag [(.sc (.int .u8 0)), (.sc (.int .u8 0)), (.sc (.int .u8 0)), (.sc (.int .u8 0)), (.sc (.int .u8 0)), (.sc (.int .u8 0)), (.sc (.int .u8 0)), (.sc (.int .u8 0)), (.sc (.int .u8 0)), (.sc (.int .u8 0)), (.sc (.int .u8 0)), (.sc (.int .u8 0)), (.sc (.int .u8 0)), (.sc (.int .u8 0)), (.sc (.int .u8 0)), (.sc (.int .u8 0)), (.sc (.int .u8 0)), (.sc (.int .u8 0)), (.sc (.int .u8 0)), (.sc (.int .u8 0)), (.sc (.int .u8 0)), (.sc (.int .u8 0)), (.sc (.int .u8 0)), (.sc (.int .u8 0))])⟩]) ((.seq (.reg false [⟨none, .mv 20 (.t 0)⟩, ⟨none, .cvt 21 .u64 (.t 20)⟩, ⟨none, .mv 6 (.t 21)⟩]) ((.seq ((.seq (.reg false [⟨none, .mv 22 (.t 0)⟩, ⟨none, .bin 23 .lss (.t 22) (.c (.sc (.int .i64 0)))⟩]) (.cond (.t 23) (.reg false [⟨none, .mv 24 (.t 6)⟩, ⟨none, .un 25 .neg (.t 24)⟩, ⟨none, .mv 6 (.t 25)⟩]) (.skip)))) ((.seq (.reg false [⟨none, .mv 26 (.t 6)⟩, ⟨none, .call (some 27) f2 [(.t 26)]⟩, ⟨none, .mv 7 (.t 27)⟩]) ((.seq (.reg false [⟨none, .mv 28 (.t 7)⟩, ⟨none, .bin 29 .add (.c (.sc (.int .i64 1))) (.t 28)⟩, ⟨none, .other o1⟩, ⟨none, .mv 31 (.t 6)⟩, ⟨none, .call (some 32) f3 [(.t 30), (.t 31)]⟩]) ((.seq ((.seq (.reg false [⟨none, .mv 33 (.t 0)⟩, ⟨none, .bin 34 .lss (.t 33) (.c (.sc (.int .i64 0)))⟩]) (.cond (.t 34) ((.seq (.reg false [⟨none, .other o2⟩, ⟨none, .st 1 (.t 35) (.c (.sc (.int .u8 45)))⟩]) ((.seq (.reg false [⟨none, .mv 36 (.t 7)⟩, ⟨none, .bin 37 .add (.c (.sc (.int .i64 1))) (.t 36)⟩, ⟨none, .other o3⟩, ⟨none, .cvs 39 (.t 38)⟩, ⟨none, .mv 4 (.t 39)⟩]) (.ret))))) (.skip)))) ((.seq (.reg false [⟨none, .mv 40 (.t 7)⟩, ⟨none, .bin 41 .add (.c (.sc (.int .i64 1))) (.t 40)⟩, ⟨none, .other o4⟩, ⟨none, .cvs 43 (.t 42)⟩, ⟨none, .mv 4 (.t 43)⟩]) (.ret))))))))))))))))) (.skip)))) ((.seq (.reg false [⟨none, .mv 45 (.t 0)⟩, ⟨none, .cvt 46 .u64 (.t 45)⟩, ⟨none, .mv 47 (.t 1)⟩, ⟨none, .mv 48 (.t 0)⟩, ⟨none, .bin 49 .lss (.t 48) (.c (.sc (.int .i64 0)))⟩, ⟨none, .call (some 50) f4 [(.c (.ls (some true) 1 [])), (.t 46), (.t 47), (.t 49), (.c (.sc (.bool false)))]⟩, ⟨none, .mv 44 (.t 50)⟩, ⟨none, .ext 51 (.t 44) 0⟩, ⟨none, .ext 52 (.t 44) 1⟩, ⟨none, .mv 8 (.t 51)⟩, ⟨none, .mv 9 (.t 52)⟩]) ((.seq (.reg false [⟨none, .mv 53 (.t 9)⟩, ⟨none, .mv 4 (.t 53)⟩]) (.ret))))))))
def K_formatInt (P : Program) (fno : Nat) : Prop := ∀ (n : Nat) (hn : n < 100), AF P fno [eI n, eI 10] (.own (eT (decB n)))
theorem a_formatInt {P : Program} (hm : P.follows .mixedOrders = true) {g f1 f2 f3 f4 : Nat} {o1 o2 o3 o4 : Oper} (hr : resF P g = some (54, k_formatInt f1 f2 f3 f4 o1 o2 o3 o4, [.t 4])) (hc1 : K_small P f1) : K_formatInt P g := by
 intro n hn
 have h0 : (0 : Int) ≤ n := by omega
 have h1 : (n : Int) < 100 := by omega
 refine af_of_res hr hm rfl fun hb => ?_
 simp +contextual -implicitDefEqProofs only [k_formatInt, eI, eT, h0, h1, D.put, D.cells, D.size, D.sizeL, D.isAg, modeOf, noPtrs, List.length_map, go_sem, eB, ↓reduceIte, Nat.reduceEqDiff, Nat.reduceAdd, Nat.reduceLeDiff, Nat.reduceMul, Nat.reduceBEq, Nat.reduceBneDiff, Nat.reduceLT, Nat.reduceSub, Int.ofNat_lt, Int.natCast_nonneg]
 refine callQ_self (ds := [eI n]) (by rfl) (hc1 n hn) ?_
 simp +contextual -implicitDefEqProofs only [eI, eT, D.put, D.cells, D.size, D.sizeL, D.isAg, modeOf, noPtrs, List.length_map, go_sem, eB, ↓reduceIte, Nat.reduceEqDiff, Nat.reduceAdd, Nat.reduceLeDiff, Nat.reduceMul, Nat.reduceBEq, Nat.reduceBneDiff, Nat.reduceLT, Nat.reduceSub, Int.ofNat_lt, Int.natCast_nonneg]

def k_formatIntS (f1 : Nat) : RC := (.seq (.reg false [⟨none, .mv 4 (.c (.sc (.string ⟨#[]⟩)))⟩]) ((.seq (.reg false [⟨none, .mv 5 (.t 0)⟩, ⟨none, .mv 6 (.t 1)⟩, ⟨none, .call (some 7) f1 [(.t 5), (.t 6)]⟩, ⟨none, .mv 4 (.t 7)⟩]) (.ret))))
def K_formatIntS (P : Program) (fno : Nat) : Prop := ∀ (n : Nat) (hn : n < 100), AF P fno [eI n, eI 10] (.own (eT (decB n)))
theorem a_formatIntS {P : Program} (hm : P.follows .mixedOrders = true) {g f1 : Nat} (hr : resF P g = some (8, k_formatIntS f1, [.t 4])) (hc1 : K_formatInt P f1) : K_formatIntS P g := by
 intro n hn
 refine af_of_res hr hm rfl fun hb => ?_
 simp +contextual -implicitDefEqProofs only [k_formatIntS, eI, eT, D.put, D.cells, D.size, D.sizeL, D.isAg, modeOf, noPtrs, List.length_map, go_sem, eB, ↓reduceIte, Nat.reduceEqDiff, Nat.reduceAdd, Nat.reduceLeDiff, Nat.reduceMul, Nat.reduceBEq, Nat.reduceBneDiff, Nat.reduceLT, Nat.reduceSub, Int.ofNat_lt, Int.natCast_nonneg]
 refine callQ_self (ds := [eI n, eI 10]) (by rfl) (hc1 n hn) ?_
 simp +contextual -implicitDefEqProofs only [eI, eT, D.put, D.cells, D.size, D.sizeL, D.isAg, modeOf, noPtrs, List.length_map, go_sem, eB, ↓reduceIte, Nat.reduceEqDiff, Nat.reduceAdd, Nat.reduceLeDiff, Nat.reduceMul, Nat.reduceBEq, Nat.reduceBneDiff, Nat.reduceLT, Nat.reduceSub, Int.ofNat_lt, Int.natCast_nonneg]

def k_imDecimal (f1 : Nat) : RC := (.seq (.reg false [⟨none, .mv 2 (.c (.sc (.string ⟨#[]⟩)))⟩]) ((.seq (.reg false [⟨none, .mv 3 (.t 0)⟩, ⟨none, .call (some 4) f1 [(.t 3), (.c (.sc (.int .i64 10)))]⟩, ⟨none, .mv 2 (.t 4)⟩]) (.ret))))
def K_imDecimal (P : Program) (fno : Nat) : Prop := ∀ (n : Nat) (hn : n < 100), AF P fno [eI n] (.own (eT (decB n)))
theorem a_imDecimal {P : Program} (hm : P.follows .mixedOrders = true) {g f1 : Nat} (hr : resF P g = some (5, k_imDecimal f1, [.t 2])) (hc1 : K_formatIntS P f1) : K_imDecimal P g := by
 intro n hn
 refine af_of_res hr hm rfl fun hb => ?_
 simp +contextual -implicitDefEqProofs only [k_imDecimal, eI, eT, D.put, D.cells, D.size, D.sizeL, D.isAg, modeOf, noPtrs, List.length_map, go_sem, eB, ↓reduceIte, Nat.reduceEqDiff, Nat.reduceAdd, Nat.reduceLeDiff, Nat.reduceMul, Nat.reduceBEq, Nat.reduceBneDiff, Nat.reduceLT, Nat.reduceSub, Int.ofNat_lt, Int.natCast_nonneg]
 refine callQ_self (ds := [eI n, eI 10]) (by rfl) (hc1 n hn) ?_
 simp +contextual -implicitDefEqProofs only [eI, eT, D.put, D.cells, D.size, D.sizeL, D.isAg, modeOf, noPtrs, List.length_map, go_sem, eB, ↓reduceIte, Nat.reduceEqDiff, Nat.reduceAdd, Nat.reduceLeDiff, Nat.reduceMul, Nat.reduceBEq, Nat.reduceBneDiff, Nat.reduceLT, Nat.reduceSub, Int.ofNat_lt, Int.natCast_nonneg]
def b1 (b : Bool) : ByteArray := if b then ⟨#[49]⟩ else ⟨#[48]⟩
def bitsT (l : List Bool) : ByteArray := l.foldl (fun s b => s ++ b1 b) ⟨#[]⟩
theorem bitsT_nil : bitsT [] = ⟨#[]⟩ := rfl
theorem bitsT_take {l : List Bool} {i : Nat} (h : i < l.length) : bitsT (l.take (i + 1)) = bitsT (l.take i) ++ b1 l[i] := by
 rw [List.take_succ_eq_append_getElem h]
 simp only [bitsT, List.foldl_append, List.foldl_cons, List.foldl_nil]
theorem b1_size {b : Bool} : (b1 b).size = 1 := by cases b <;> rfl
theorem bitsT_size : ∀ l : List Bool, (bitsT l).size = l.length := by
 have : ∀ (l : List Bool) (s : ByteArray), (l.foldl (fun s b => s ++ b1 b) s).size = s.size + l.length := by
  intro l
  induction l with
  | nil => intro s; rfl
  | cons b l ih => intro s; rw [List.foldl_cons, ih, ByteArray.size_append, b1_size, List.length_cons]; omega
 intro l
 rw [bitsT, this]
 show 0 + l.length = l.length
 omega

def k_l05Bits : RC := (.seq (.reg false [⟨none, .mv 2 (.c (.sc (.string ⟨#[]⟩)))⟩]) ((.seq (.reg false [⟨none, .mv 3 (.c (.sc (.string ⟨#[]⟩)))⟩]) ((.seq ((.seq (.reg false [⟨none, .mv 4 (.c (.sc (.int .i64 0)))⟩]) (.blk 0 (.loop ((.seq ((.seq (.reg false [⟨none, .mv 5 (.t 4)⟩, ⟨none, .mv 6 (.t 0)⟩, ⟨none, .len 7 (.t 6)⟩, ⟨none, .bin 8 .lss (.t 5) (.t 7)⟩]) (.cond (.t 8) (.skip) (.exit 0)))) ((.seq (.blk 1 ((.seq (.reg false [⟨none, .mv 11 (.t 0)⟩, ⟨none, .mv 12 (.t 4)⟩, ⟨none, .ia 13 1 (.t 11) (.t 12)⟩, ⟨none, .ld 14 false 1 (.t 13)⟩]) (.cond (.t 14) (.reg false [⟨none, .mv 15 (.t 3)⟩, ⟨none, .bin 16 .add (.t 15) (.c (.sc (.string ⟨#[49]⟩)))⟩, ⟨none, .mv 3 (.t 16)⟩]) (.reg false [⟨none, .mv 17 (.t 3)⟩, ⟨none, .bin 18 .add (.t 17) (.c (.sc (.string ⟨#[48]⟩)))⟩, ⟨none, .mv 3 (.t 18)⟩]))))) (.reg false [⟨none, .mv 9 (.t 4)⟩, ⟨none, .bin 10 .add (.t 9) (.c (.sc (.int .i64 1)))⟩, ⟨none, .mv 4 (.t 10)⟩]))))))))) ((.seq (.reg false [⟨none, .mv 19 (.t 3)⟩, ⟨none, .mv 2 (.t 19)⟩]) (.ret))))))))
def K_l05Bits (P : Program) (fno : Nat) : Prop := ∀ (s : SL Bool) (hs : s.2.length ≤ 8), AF P fno [eS 1 eB s] (.own (eT (bitsT s.2)))
theorem a_l05Bits {P : Program} (hm : P.follows .mixedOrders = true) {g : Nat} (hr : resF P g = some (20, k_l05Bits, [.t 2])) : K_l05Bits P g := by
 intro s hs
 refine af_of_res hr hm rfl fun hb => ?_
 simp +contextual -implicitDefEqProofs only [k_l05Bits, eI, eT, eS, D.put, D.cells, D.size, D.sizeL, D.isAg, modeOf, noPtrs, List.length_map, go_sem, eB, ↓reduceIte, Nat.reduceEqDiff, Nat.reduceAdd, Nat.reduceLeDiff, Nat.reduceMul, Nat.reduceBEq, Nat.reduceBneDiff, Nat.reduceLT, Nat.reduceSub, Int.ofNat_lt, Int.natCast_nonneg]
 refine vc_onU (α := Nat) [3, 4, 5, 6, 7, 8, 9, 10, 11, 12, 13, 14, 15, 16, 17, 18] (fun i => [(4, .im none (.sc (.int .i64 i))), (3, .im none (.sc (.string (bitsT (s.2.take i)))))]) (fun i => []) (fun i => i ≤ s.2.length) (fun i => s.2.length - i) 0 (Ent.to [] (by simp only [go_sem, ↓reduceIte, Nat.reduceEqDiff, Nat.reduceBEq, Nat.reduceBneDiff]; rfl) rfl (by simp) (by rfl) (by simp only [subEnv, go_sem, ↓reduceIte, Nat.reduceEqDiff, Nat.reduceBEq, keep, memN, Bool.or_false, Bool.false_or, Bool.or_self] <;> simp [bitsT_nil])) (Nat.zero_le _) ?_
 intro i hi0
 by_cases hi : i < s.2.length
 ·have e1 := at_map (f := eB) hi
  have ht := bitsT_take hi
  have hz := bitsT_size (s.2.take i)
  rw [List.length_take] at hz
  cases hb2 : s.2[i]
  all_goals
   rw [hb2] at ht e1
   simp +contextual -implicitDefEqProofs only [hi, e1, eB, eT, D.put, D.cells, D.size, D.sizeL, D.isAg, modeOf, noPtrs, List.length_map, go_sem, eI, ↓reduceIte, Nat.reduceEqDiff, Nat.reduceAdd, Nat.reduceLeDiff, Nat.reduceMul, Nat.reduceBEq, Nat.reduceBneDiff, Nat.reduceLT, Nat.reduceSub, Int.ofNat_lt, Int.natCast_nonneg]
   refine ⟨by rw [hz]; simp only [bsz, List.size_toArray, List.length_cons, List.length_nil]; omega, i + 1, by omega, by omega, ?_⟩
   rw [wrap_i64 (by omega) (by omega)]
   exact Ent.to [] (by simp only [go_sem, ↓reduceIte, Nat.reduceEqDiff, Nat.reduceBEq, Nat.reduceBneDiff]; rfl) rfl (by simp) (by rfl) (by simp only [subEnv, go_sem, ↓reduceIte, Nat.reduceEqDiff, Nat.reduceBEq, keep, memN, Bool.or_false, Bool.false_or, Bool.or_self] <;> simp [ht, b1])
 ·obtain rfl : i = s.2.length := by omega
  simp +contextual -implicitDefEqProofs only [hi, eB, eT, List.take_length, D.put, D.cells, D.size, D.sizeL, D.isAg, modeOf, noPtrs, List.length_map, go_sem, eI, ↓reduceIte, Nat.reduceEqDiff, Nat.reduceAdd, Nat.reduceLeDiff, Nat.reduceMul, Nat.reduceBEq, Nat.reduceBneDiff, Nat.reduceLT, Nat.reduceSub, Int.ofNat_lt, Int.natCast_nonneg]

def k_digits : RC := (.seq (.reg false [⟨none, .mv 2 (.c (.sc (.string ⟨#[]⟩)))⟩]) ((.seq (.reg false [⟨none, .mv 3 (.c (.sc (.string ⟨#[]⟩)))⟩]) ((.seq ((.seq (.reg false [⟨none, .mv 6 (.t 0)⟩, ⟨none, .len 7 (.t 6)⟩, ⟨none, .mv 8 (.c (.sc (.int .i64 0)))⟩]) (.blk 0 (.loop ((.seq (.reg false [⟨none, .bin 9 .lss (.t 8) (.t 7)⟩]) ((.seq (.cond (.t 9) (.skip) (.exit 0)) ((.seq (.blk 1 ((.seq (.reg false [⟨none, .ia 10 1 (.t 6) (.t 8)⟩, ⟨none, .ld 11 false 1 (.t 10)⟩, ⟨none, .mv 5 (.t 11)⟩]) ((.seq (.reg false [⟨none, .mv 12 (.t 5)⟩]) (.cond (.t 12) (.reg false [⟨none, .mv 13 (.t 3)⟩, ⟨none, .bin 14 .add (.t 13) (.c (.sc (.string ⟨#[49]⟩)))⟩, ⟨none, .mv 3 (.t 14)⟩]) (.reg false [⟨none, .mv 15 (.t 3)⟩, ⟨none, .bin 16 .add (.t 15) (.c (.sc (.string ⟨#[48]⟩)))⟩, ⟨none, .mv 3 (.t 16)⟩]))))))) (.reg false [⟨none, .bin 17 .add (.t 8) (.c (.sc (.int .i64 1)))⟩, ⟨none, .mv 8 (.t 17)⟩]))))))))))) ((.seq (.reg false [⟨none, .mv 18 (.t 3)⟩, ⟨none, .mv 2 (.t 18)⟩]) (.ret))))))))
def K_digits (P : Program) (fno : Nat) : Prop := ∀ (s : SL Bool) (hs : s.2.length ≤ 8), AF P fno [eS 1 eB s] (.own (eT (bitsT s.2)))
theorem a_digits {P : Program} (hm : P.follows .mixedOrders = true) {g : Nat} (hr : resF P g = some (19, k_digits, [.t 2])) : K_digits P g := by
 intro s hs
 refine af_of_res hr hm rfl fun hb => ?_
 simp +contextual -implicitDefEqProofs only [k_digits, eI, eT, eS, D.put, D.cells, D.size, D.sizeL, D.isAg, modeOf, noPtrs, List.length_map, go_sem, eB, ↓reduceIte, Nat.reduceEqDiff, Nat.reduceAdd, Nat.reduceLeDiff, Nat.reduceMul, Nat.reduceBEq, Nat.reduceBneDiff, Nat.reduceLT, Nat.reduceSub, Int.ofNat_lt, Int.natCast_nonneg]
 refine vc_onU (α := Nat) [3, 5, 8, 9, 10, 11, 12, 13, 14, 15, 16, 17] (fun i => [(8, .im none (.sc (.int .i64 i))), (3, .im none (.sc (.string (bitsT (s.2.take i)))))]) (fun i => []) (fun i => i ≤ s.2.length) (fun i => s.2.length - i) 0 (Ent.to [] (by simp only [go_sem, ↓reduceIte, Nat.reduceEqDiff, Nat.reduceBEq, Nat.reduceBneDiff]; rfl) rfl (by simp) (by rfl) (by simp only [subEnv, go_sem, ↓reduceIte, Nat.reduceEqDiff, Nat.reduceBEq, keep, memN, Bool.or_false, Bool.false_or, Bool.or_self] <;> simp [bitsT_nil])) (Nat.zero_le _) ?_
 intro i hi0
 by_cases hi : i < s.2.length
 ·have e1 := at_map (f := eB) hi
  have ht := bitsT_take hi
  have hz := bitsT_size (s.2.take i)
  rw [List.length_take] at hz
  cases hb2 : s.2[i]
  all_goals
   rw [hb2] at ht e1
   simp +contextual -implicitDefEqProofs only [hi, e1, eB, eT, D.put, D.cells, D.size, D.sizeL, D.isAg, modeOf, noPtrs, List.length_map, go_sem, eI, ↓reduceIte, Nat.reduceEqDiff, Nat.reduceAdd, Nat.reduceLeDiff, Nat.reduceMul, Nat.reduceBEq, Nat.reduceBneDiff, Nat.reduceLT, Nat.reduceSub, Int.ofNat_lt, Int.natCast_nonneg]
   refine ⟨by rw [hz]; simp only [bsz, List.size_toArray, List.length_cons, List.length_nil]; omega, i + 1, by omega, by omega, ?_⟩
   rw [wrap_i64 (by omega) (by omega)]
   exact Ent.to [] (by simp only [go_sem, ↓reduceIte, Nat.reduceEqDiff, Nat.reduceBEq, Nat.reduceBneDiff]; rfl) rfl (by simp) (by rfl) (by simp only [subEnv, go_sem, ↓reduceIte, Nat.reduceEqDiff, Nat.reduceBEq, keep, memN, Bool.or_false, Bool.false_or, Bool.or_self] <;> simp [ht, b1])
 ·obtain rfl : i = s.2.length := by omega
  simp +contextual -implicitDefEqProofs only [hi, eB, eT, List.take_length, D.put, D.cells, D.size, D.sizeL, D.isAg, modeOf, noPtrs, List.length_map, go_sem, eI, ↓reduceIte, Nat.reduceEqDiff, Nat.reduceAdd, Nat.reduceLeDiff, Nat.reduceMul, Nat.reduceBEq, Nat.reduceBneDiff, Nat.reduceLT, Nat.reduceSub, Int.ofNat_lt, Int.natCast_nonneg]
theorem foldl_take {α β : Type} {f : β → α → β} {s : β} {l : List α} {i : Nat} (h : i < l.length) : (l.take (i + 1)).foldl f s = f ((l.take i).foldl f s) l[i] := by
 rw [List.take_succ_eq_append_getElem h]
 simp only [List.foldl_append, List.foldl_cons, List.foldl_nil]
theorem foldl_size {α : Type} {f : ByteArray → α → ByteArray} {c : Nat} : ∀ (l : List α) (s : ByteArray), (∀ s x, x ∈ l → (f s x).size ≤ s.size + c) → (l.foldl f s).size ≤ s.size + c * l.length
 | [], s, _ => by simp
 | x :: l, s, h => by
  rw [List.foldl_cons]
  have h1 := foldl_size (f := f) (c := c) l (f s x) (fun s y hy => h s y (List.mem_cons_of_mem _ hy))
  have h2 := h s x List.mem_cons_self
  rw [List.length_cons, Nat.mul_succ]
  omega
def tailT (r : SL Bool) : ByteArray := ⟨#[116, 101, 115, 116, 32]⟩ ++ bitsT r.2 ++ ⟨#[10]⟩
def testT (s : ByteArray) (l : List (SL Bool)) : ByteArray := l.foldl (fun s r => s ++ tailT r) s
def rowT (r : SL Bool) : ByteArray := ⟨#[32]⟩ ++ bitsT r.2
def actR (s : ByteArray) (l : List (SL Bool)) : ByteArray := l.foldl (fun s r => s ++ rowT r) s
def actT (s : ByteArray) (l : List (SL (SL Bool))) : ByteArray := l.foldl (fun s a => actR (s ++ ⟨#[97, 99, 116]⟩) a.2 ++ ⟨#[10]⟩) s
def headT (t a p : Nat) : ByteArray := ⟨#[109, 111, 100, 101, 108, 32]⟩ ++ decB t ++ ⟨#[32]⟩ ++ decB a ++ ⟨#[32]⟩ ++ decB p ++ ⟨#[10]⟩

def modelT (n : Nat) (T : SL (SL Bool)) (A : SL (SL (SL Bool))) : ByteArray := actT (testT (headT T.2.length A.2.length n) T.2) A.2
theorem headT_size {t a p : Nat} : (headT t a p).size ≤ 15 := by
 have h1 := decB_size (n := t)
 have h2 := decB_size (n := a)
 have h3 := decB_size (n := p)
 simp only [headT, ByteArray.size_append, bsz, List.size_toArray, List.length_cons, List.length_nil]
 omega
theorem tailT_size {r : SL Bool} : (tailT r).size = 6 + r.2.length := by
 simp only [tailT, ByteArray.size_append, bitsT_size, bsz, List.size_toArray, List.length_cons, List.length_nil]
 omega
theorem rowT_size {r : SL Bool} : (rowT r).size = 1 + r.2.length := by
 simp only [rowT, ByteArray.size_append, bitsT_size, bsz, List.size_toArray, List.length_cons, List.length_nil]
theorem testT_nil {s : ByteArray} : testT s [] = s := rfl
theorem actR_nil {s : ByteArray} : actR s [] = s := rfl
theorem actT_nil {s : ByteArray} : actT s [] = s := rfl
theorem testT_size {s : ByteArray} {l : List (SL Bool)} (h : ∀ r ∈ l, r.2.length ≤ 8) : (testT s l).size ≤ s.size + 14 * l.length :=
 foldl_size l s fun s r hr => by
  have := h r hr
  rw [ByteArray.size_append, tailT_size]
  omega
theorem actR_size {s : ByteArray} {l : List (SL Bool)} (h : ∀ r ∈ l, r.2.length ≤ 8) : (actR s l).size ≤ s.size + 9 * l.length :=
 foldl_size l s fun s r hr => by
  have := h r hr
  rw [ByteArray.size_append, rowT_size]
  omega
theorem actT_size {s : ByteArray} {l : List (SL (SL Bool))} (h : ∀ a ∈ l, a.2.length ≤ 8 ∧ ∀ r ∈ a.2, r.2.length ≤ 8) : (actT s l).size ≤ s.size + 76 * l.length :=
 foldl_size l s fun s a ha => by
  have h1 := actR_size (s := s ++ ⟨#[97, 99, 116]⟩) (h a ha).2
  have h2 := (h a ha).1
  rw [ByteArray.size_append, bsz] at *
  simp only [List.size_toArray, List.length_cons, List.length_nil, ByteArray.size_append, bsz] at *
  omega
theorem testT_take {s : ByteArray} {l : List (SL Bool)} {i : Nat} (h : i < l.length) : testT s (l.take (i + 1)) = testT s (l.take i) ++ (⟨#[116, 101, 115, 116, 32]⟩ ++ bitsT l[i].2 ++ ⟨#[10]⟩) := foldl_take h
theorem actR_take {s : ByteArray} {l : List (SL Bool)} {i : Nat} (h : i < l.length) : actR s (l.take (i + 1)) = actR s (l.take i) ++ (⟨#[32]⟩ ++ bitsT l[i].2) := foldl_take h
theorem actT_take {s : ByteArray} {l : List (SL (SL Bool))} {i : Nat} (h : i < l.length) : actT s (l.take (i + 1)) = actR (actT s (l.take i) ++ ⟨#[97, 99, 116]⟩) l[i].2 ++ ⟨#[10]⟩ := foldl_take h

def k_l05Text (f1 f2 : Nat) : RC := (.seq (.reg false [⟨none, .mv 2 (.c (.sc (.string ⟨#[]⟩)))⟩]) ((.seq (.reg true [⟨none, .mv 7 (.t 0)⟩, ⟨none, .nck 8 (.t 7)⟩, ⟨none, .fa 9 0 (.t 8)⟩, ⟨none, .fa 10 0 (.t 9)⟩, ⟨none, .ld 11 false 1 (.t 10)⟩, ⟨none, .call (some 12) f1 [(.t 11)]⟩, ⟨none, .bin 13 .add (.c (.sc (.string ⟨#[109, 111, 100, 101, 108, 32]⟩))) (.t 12)⟩, ⟨none, .bin 14 .add (.t 13) (.c (.sc (.string ⟨#[32]⟩)))⟩, ⟨none, .mv 15 (.t 0)⟩, ⟨none, .nck 16 (.t 15)⟩, ⟨none, .fa 17 0 (.t 16)⟩, ⟨none, .fa 18 1 (.t 17)⟩, ⟨none, .ld 19 false 1 (.t 18)⟩, ⟨none, .call (some 20) f1 [(.t 19)]⟩, ⟨none, .bin 21 .add (.t 14) (.t 20)⟩, ⟨none, .bin 22 .add (.t 21) (.c (.sc (.string ⟨#[32]⟩)))⟩, ⟨none, .mv 23 (.t 0)⟩, ⟨none, .nck 24 (.t 23)⟩, ⟨none, .fa 25 2 (.t 24)⟩, ⟨none, .ld 26 false 1 (.t 25)⟩, ⟨none, .call (some 27) f1 [(.t 26)]⟩, ⟨none, .bin 28 .add (.t 22) (.t 27)⟩, ⟨none, .bin 29 .add (.t 28) (.c (.sc (.string ⟨#[10]⟩)))⟩, ⟨none, .mv 3 (.t 29)⟩]) ((.seq ((.seq (.reg false [⟨none, .mv 4 (.c (.sc (.int .i64 0)))⟩]) (.blk 0 (.loop ((.seq ((.seq (.reg false [⟨none, .mv 30 (.t 4)⟩, ⟨none, .mv 31 (.t 0)⟩, ⟨none, .nck 32 (.t 31)⟩, ⟨none, .fa 33 3 (.t 32)⟩, ⟨none, .ld 34 false 1 (.t 33)⟩, ⟨none, .len 35 (.t 34)⟩, ⟨none, .bin 36 .lss (.t 30) (.t 35)⟩]) (.cond (.t 36) (.skip) (.exit 0)))) ((.seq (.blk 1 (.reg false [⟨none, .mv 39 (.t 3)⟩, ⟨none, .mv 40 (.t 0)⟩, ⟨none, .nck 41 (.t 40)⟩, ⟨none, .fa 42 3 (.t 41)⟩, ⟨none, .ld 43 false 1 (.t 42)⟩, ⟨none, .mv 44 (.t 4)⟩, ⟨none, .ia 45 1 (.t 43) (.t 44)⟩, ⟨none, .ld 46 false 1 (.t 45)⟩, ⟨none, .call (some 47) f2 [(.t 46)]⟩, ⟨none, .bin 48 .add (.c (.sc (.string ⟨#[116, 101, 115, 116, 32]⟩))) (.t 47)⟩, ⟨none, .bin 49 .add (.t 48) (.c (.sc (.string ⟨#[10]⟩)))⟩, ⟨none, .bin 50 .add (.t 39) (.t 49)⟩, ⟨none, .mv 3 (.t 50)⟩])) (.reg false [⟨none, .mv 37 (.t 4)⟩, ⟨none, .bin 38 .add (.t 37) (.c (.sc (.int .i64 1)))⟩, ⟨none, .mv 4 (.t 38)⟩]))))))))) ((.seq ((.seq (.reg false [⟨none, .mv 5 (.c (.sc (.int .i64 0)))⟩]) (.blk 2 (.loop ((.seq ((.seq (.reg false [⟨none, .mv 51 (.t 5)⟩, ⟨none, .mv 52 (.t 0)⟩, ⟨none, .nck 53 (.t 52)⟩, ⟨none, .fa 54 4 (.t 53)⟩, ⟨none, .ld 55 false 1 (.t 54)⟩, ⟨none, .len 56 (.t 55)⟩, ⟨none, .bin 57 .lss (.t 51) (.t 56)⟩]) (.cond (.t 57) (.skip) (.exit 2)))) ((.seq (.blk 3 ((.seq (.reg false [⟨none, .mv 60 (.t 3)⟩, ⟨none, .bin 61 .add (.t 60) (.c (.sc (.string ⟨#[97, 99, 116]⟩)))⟩, ⟨none, .mv 3 (.t 61)⟩]) ((.seq ((.seq (.reg false [⟨none, .mv 6 (.c (.sc (.int .i64 0)))⟩]) (.blk 4 (.loop ((.seq ((.seq (.reg false [⟨none, .mv 62 (.t 6)⟩, ⟨none, .mv 63 (.t 0)⟩, ⟨none, .nck 64 (.t 63)⟩, ⟨none, .fa 65 4 (.t 64)⟩, ⟨none, .ld 66 false 1 (.t 65)⟩, ⟨none, .mv 67 (.t 5)⟩, ⟨none, .ia 68 1 (.t 66) (.t 67)⟩, ⟨none, .ld 69 false 1 (.t 68)⟩, ⟨none, .len 70 (.t 69)⟩, ⟨none, .bin 71 .lss (.t 62) (.t 70)⟩]) (.cond (.t 71) (.skip) (.exit 4)))) ((.seq (.blk 5 (.reg false [⟨none, .mv 74 (.t 3)⟩, ⟨none, .mv 75 (.t 0)⟩, ⟨none, .nck 76 (.t 75)⟩, ⟨none, .fa 77 4 (.t 76)⟩, ⟨none, .ld 78 false 1 (.t 77)⟩, ⟨none, .mv 79 (.t 5)⟩, ⟨none, .ia 80 1 (.t 78) (.t 79)⟩, ⟨none, .ld 81 false 1 (.t 80)⟩, ⟨none, .mv 82 (.t 6)⟩, ⟨none, .ia 83 1 (.t 81) (.t 82)⟩, ⟨none, .ld 84 false 1 (.t 83)⟩, ⟨none, .call (some 85) f2 [(.t 84)]⟩, ⟨none, .bin 86 .add (.c (.sc (.string ⟨#[32]⟩))) (.t 85)⟩, ⟨none, .bin 87 .add (.t 74) (.t 86)⟩, ⟨none, .mv 3 (.t 87)⟩])) (.reg false [⟨none, .mv 72 (.t 6)⟩, ⟨none, .bin 73 .add (.t 72) (.c (.sc (.int .i64 1)))⟩, ⟨none, .mv 6 (.t 73)⟩]))))))))) (.reg false [⟨none, .mv 88 (.t 3)⟩, ⟨none, .bin 89 .add (.t 88) (.c (.sc (.string ⟨#[10]⟩)))⟩, ⟨none, .mv 3 (.t 89)⟩])))))) (.reg false [⟨none, .mv 58 (.t 5)⟩, ⟨none, .bin 59 .add (.t 58) (.c (.sc (.int .i64 1)))⟩, ⟨none, .mv 5 (.t 59)⟩]))))))))) ((.seq (.reg false [⟨none, .mv 90 (.t 3)⟩, ⟨none, .mv 2 (.t 90)⟩]) (.ret))))))))))
def K_l05Text (P : Program) (fno : Nat) : Prop := ∀ (n : Nat) (T : SL (SL Bool)) (A : SL (SL (SL Bool))) (hM : MoOk ((T.2.length, A.2.length), n, T, A) n), AF P fno [.pt (eM ((T.2.length, A.2.length), n, T, A)) 0] (.own (eT (modelT n T A)))
theorem a_l05Text {P : Program} (hm : P.follows .mixedOrders = true) {g f1 f2 : Nat} (hr : resF P g = some (91, k_l05Text f1 f2, [.t 2])) (hc1 : K_spDecimal P f1) (hc2 : K_l05Bits P f2) : K_l05Text P g := by
 intro n T A hM
 have hg := hM.g
 have hn := hM.n8
 have htr : ∀ r ∈ T.2, r.2.length = n := hM.tr
 have has : ∀ a ∈ A.2, Sq n a := hM.asq
 simp only [okG, isIn, Bool.and_eq_true, decide_eq_true_eq] at hg
 have hT : T.2.length ≤ 3 := by omega
 have hA : A.2.length ≤ 4 := by omega
 have dT := decB_size (n := T.2.length)
 have dA := decB_size (n := A.2.length)
 have dN := decB_size (n := n)
 refine af_of_res hr hm rfl fun hb => ?_
 simp +contextual -implicitDefEqProofs only [k_l05Text, eM, eI, eT, eG, eS, D.at, D.sub, D.put, D.cells, D.size, D.sizeL, D.isAg, modeOf, noPtrs, List.length_map, go_sem, eB, ↓reduceIte, Nat.reduceEqDiff, Nat.reduceAdd, Nat.reduceLeDiff, Nat.reduceMul, Nat.reduceBEq, Nat.reduceBneDiff, Nat.reduceLT, Nat.reduceSub, Int.ofNat_lt, Int.natCast_nonneg]
 refine callQ_self (ds := [eI ((T.2.length : Nat) : Int)]) (by rfl) (hc1 T.2.length (by omega)) ?_
 simp +contextual -implicitDefEqProofs only [eM, eI, eT, eG, eS, D.at, D.sub, D.put, D.cells, D.size, D.sizeL, D.isAg, modeOf, noPtrs, List.length_map, go_sem, eB, ↓reduceIte, Nat.reduceEqDiff, Nat.reduceAdd, Nat.reduceLeDiff, Nat.reduceMul, Nat.reduceBEq, Nat.reduceBneDiff, Nat.reduceLT, Nat.reduceSub, Int.ofNat_lt, Int.natCast_nonneg]
 refine ⟨by simp only [ByteArray.size_append, bitsT_size, bsz, List.size_toArray, List.length_cons, List.length_nil]; omega, by simp only [ByteArray.size_append, bitsT_size, bsz, List.size_toArray, List.length_cons, List.length_nil]; omega, callQ_self (ds := [eI ((A.2.length : Nat) : Int)]) (by rfl) (hc1 A.2.length (by omega)) ?_⟩
 simp +contextual -implicitDefEqProofs only [eM, eI, eT, eG, eS, D.at, D.sub, D.put, D.cells, D.size, D.sizeL, D.isAg, modeOf, noPtrs, List.length_map, go_sem, eB, ↓reduceIte, Nat.reduceEqDiff, Nat.reduceAdd, Nat.reduceLeDiff, Nat.reduceMul, Nat.reduceBEq, Nat.reduceBneDiff, Nat.reduceLT, Nat.reduceSub, Int.ofNat_lt, Int.natCast_nonneg]
 refine ⟨by simp only [ByteArray.size_append, bitsT_size, bsz, List.size_toArray, List.length_cons, List.length_nil]; omega, by simp only [ByteArray.size_append, bitsT_size, bsz, List.size_toArray, List.length_cons, List.length_nil]; omega, callQ_self (ds := [eI ((n : Nat) : Int)]) (by rfl) (hc1 n (by omega)) ?_⟩
 simp +contextual -implicitDefEqProofs only [eM, eI, eT, eG, eS, D.at, D.sub, D.put, D.cells, D.size, D.sizeL, D.isAg, modeOf, noPtrs, List.length_map, go_sem, eB, ↓reduceIte, Nat.reduceEqDiff, Nat.reduceAdd, Nat.reduceLeDiff, Nat.reduceMul, Nat.reduceBEq, Nat.reduceBneDiff, Nat.reduceLT, Nat.reduceSub, Int.ofNat_lt, Int.natCast_nonneg]
 refine ⟨by simp only [ByteArray.size_append, bitsT_size, bsz, List.size_toArray, List.length_cons, List.length_nil]; omega, by simp only [ByteArray.size_append, bitsT_size, bsz, List.size_toArray, List.length_cons, List.length_nil]; omega, ?_⟩
 have hh := headT_size (t := T.2.length) (a := A.2.length) (p := n)
 refine vc_onU (α := Nat) [3, 4, 30, 31, 32, 33, 34, 35, 36, 37, 38, 39, 40, 41, 42, 43, 44, 45, 46, 47, 48, 49, 50] (fun i => [(4, .im none (.sc (.int .i64 i))), (3, .im none (.sc (.string (testT (headT T.2.length A.2.length n) (T.2.take i)))))]) (fun i => []) (fun i => i ≤ T.2.length) (fun i => T.2.length - i) 0 (Ent.to [] (by simp only [go_sem, ↓reduceIte, Nat.reduceEqDiff, Nat.reduceBEq, Nat.reduceBneDiff]; rfl) rfl (by simp) (by rfl) (by simp only [subEnv, go_sem, ↓reduceIte, Nat.reduceEqDiff, Nat.reduceBEq, keep, memN, Bool.or_false, Bool.false_or, Bool.or_self] <;> simp [testT_nil, headT])) (Nat.zero_le _) ?_
 intro i hi0
 by_cases hi : i < T.2.length
 ·have e1 := at_map (f := eS 1 eB) hi
  have ht := testT_take (s := headT T.2.length A.2.length n) hi
  have hr2 : T.2[i].2.length = n := htr _ (List.getElem_mem hi)
  have hz := testT_size (s := headT T.2.length A.2.length n) (l := T.2.take i) fun r hr => by have := htr r (List.mem_of_mem_take hr); omega
  rw [List.length_take] at hz
  generalize testT (headT T.2.length A.2.length n) (T.2.take i) = s at ht hz ⊢
  simp +contextual -implicitDefEqProofs only [hi, e1, eM, eI, eT, eG, eS, D.sub, D.put, D.cells, D.size, D.sizeL, D.isAg, modeOf, noPtrs, List.length_map, go_sem, eB, ↓reduceIte, Nat.reduceEqDiff, Nat.reduceAdd, Nat.reduceLeDiff, Nat.reduceMul, Nat.reduceBEq, Nat.reduceBneDiff, Nat.reduceLT, Nat.reduceSub, Int.ofNat_lt, Int.natCast_nonneg]
  refine callQ_self (ds := [eS 1 eB T.2[i]]) (by rfl) (hc2 T.2[i] (by omega)) ?_
  simp +contextual -implicitDefEqProofs only [eM, eI, eT, eG, eS, D.sub, D.put, D.cells, D.size, D.sizeL, D.isAg, modeOf, noPtrs, List.length_map, go_sem, eB, ↓reduceIte, Nat.reduceEqDiff, Nat.reduceAdd, Nat.reduceLeDiff, Nat.reduceMul, Nat.reduceBEq, Nat.reduceBneDiff, Nat.reduceLT, Nat.reduceSub, Int.ofNat_lt, Int.natCast_nonneg]
  refine ⟨by simp only [ByteArray.size_append, bitsT_size, bsz, List.size_toArray, List.length_cons, List.length_nil]; omega, by simp only [ByteArray.size_append, bitsT_size, bsz, List.size_toArray, List.length_cons, List.length_nil]; omega, by simp only [ByteArray.size_append, bitsT_size, bsz, List.size_toArray, List.length_cons, List.length_nil]; omega, i + 1, by omega, by omega, ?_⟩
  rw [wrap_i64 (by omega) (by omega)]
  exact Ent.to [] (by simp only [go_sem, ↓reduceIte, Nat.reduceEqDiff, Nat.reduceBEq, Nat.reduceBneDiff]; rfl) rfl (by simp) (by rfl) (by simp only [subEnv, go_sem, ↓reduceIte, Nat.reduceEqDiff, Nat.reduceBEq, keep, memN, Bool.or_false, Bool.false_or, Bool.or_self] <;> simp [ht])
 ·obtain rfl : i = T.2.length := by omega
  simp +contextual -implicitDefEqProofs only [hi, List.take_length, eM, eI, eT, eG, eS, D.sub, D.put, D.cells, D.size, D.sizeL, D.isAg, modeOf, noPtrs, List.length_map, go_sem, eB, ↓reduceIte, Nat.reduceEqDiff, Nat.reduceAdd, Nat.reduceLeDiff, Nat.reduceMul, Nat.reduceBEq, Nat.reduceBneDiff, Nat.reduceLT, Nat.reduceSub, Int.ofNat_lt, Int.natCast_nonneg]
  have hz := testT_size (s := headT T.2.length A.2.length n) (l := T.2) fun r hr => by have := htr r hr; omega
  unfold modelT
  generalize testT (headT T.2.length A.2.length n) T.2 = s at hz ⊢
  clear hi hi0
  refine vc_onU (α := Nat) [3, 5, 6, 51, 52, 53, 54, 55, 56, 57, 58, 59, 60, 61, 62, 63, 64, 65, 66, 67, 68, 69, 70, 71, 72, 73, 74, 75, 76, 77, 78, 79, 80, 81, 82, 83, 84, 85, 86, 87, 88, 89] (fun i => [(5, .im none (.sc (.int .i64 i))), (3, .im none (.sc (.string (actT s (A.2.take i)))))]) (fun i => []) (fun i => i ≤ A.2.length) (fun i => A.2.length - i) 0 (Ent.to [] (by simp only [go_sem, ↓reduceIte, Nat.reduceEqDiff, Nat.reduceBEq, Nat.reduceBneDiff]; rfl) rfl (by simp) (by rfl) (by simp only [subEnv, go_sem, ↓reduceIte, Nat.reduceEqDiff, Nat.reduceBEq, keep, memN, Bool.or_false, Bool.false_or, Bool.or_self] <;> simp [actT_nil])) (Nat.zero_le _) ?_
  intro i hi0
  by_cases hi : i < A.2.length
  ·have e1 := at_map (f := eS 1 (eS 1 eB)) hi
   have ht := actT_take (s := s) hi
   have hq : Sq n A.2[i] := has _ (List.getElem_mem hi)
   have hq1 : A.2[i].2.length = n := hq.1
   have hzA := actT_size (s := s) (l := A.2.take i) fun a ha => by have := has a (List.mem_of_mem_take ha); exact ⟨by have := this.1; omega, fun r hr => by have := this.2 r hr; omega⟩
   rw [List.length_take] at hzA
   generalize actT s (A.2.take i) = s2 at ht hzA ⊢
   simp +contextual -implicitDefEqProofs only [hi, e1, eM, eI, eT, eG, eS, D.sub, D.put, D.cells, D.size, D.sizeL, D.isAg, modeOf, noPtrs, List.length_map, go_sem, eB, ↓reduceIte, Nat.reduceEqDiff, Nat.reduceAdd, Nat.reduceLeDiff, Nat.reduceMul, Nat.reduceBEq, Nat.reduceBneDiff, Nat.reduceLT, Nat.reduceSub, Int.ofNat_lt, Int.natCast_nonneg]
   refine ⟨by simp only [ByteArray.size_append, bitsT_size, bsz, List.size_toArray, List.length_cons, List.length_nil]; omega, ?_⟩
   refine vc_onU (α := Nat) [3, 6, 62, 63, 64, 65, 66, 67, 68, 69, 70, 71, 72, 73, 74, 75, 76, 77, 78, 79, 80, 81, 82, 83, 84, 85, 86, 87] (fun j => [(6, .im none (.sc (.int .i64 j))), (3, .im none (.sc (.string (actR (s2 ++ ⟨#[97, 99, 116]⟩) (A.2[i].2.take j)))))]) (fun j => []) (fun j => j ≤ A.2[i].2.length) (fun j => A.2[i].2.length - j) 0 (Ent.to [] (by simp only [go_sem, ↓reduceIte, Nat.reduceEqDiff, Nat.reduceBEq, Nat.reduceBneDiff]; rfl) rfl (by simp) (by rfl) (by simp only [subEnv, go_sem, ↓reduceIte, Nat.reduceEqDiff, Nat.reduceBEq, keep, memN, Bool.or_false, Bool.false_or, Bool.or_self] <;> simp [actR_nil])) (Nat.zero_le _) ?_
   intro j hj0
   by_cases hj : j < A.2[i].2.length
   ·have e2 := at_map (f := eS 1 eB) hj
    have ht2 := actR_take (s := s2 ++ ⟨#[97, 99, 116]⟩) hj
    have hr2 : A.2[i].2[j].2.length = n := hq.2 _ (List.getElem_mem hj)
    have hz2 := actR_size (s := s2 ++ ⟨#[97, 99, 116]⟩) (l := A.2[i].2.take j) fun r hr => by have := hq.2 r (List.mem_of_mem_take hr); omega
    rw [List.length_take] at hz2
    simp only [ByteArray.size_append, bsz, List.size_toArray, List.length_cons, List.length_nil] at hz2
    generalize actR (s2 ++ ⟨#[97, 99, 116]⟩) (A.2[i].2.take j) = s3 at ht2 hz2 ⊢
    simp +contextual -implicitDefEqProofs only [hi, hj, e1, e2, eM, eI, eT, eG, eS, D.sub, D.put, D.cells, D.size, D.sizeL, D.isAg, modeOf, noPtrs, List.length_map, go_sem, eB, ↓reduceIte, Nat.reduceEqDiff, Nat.reduceAdd, Nat.reduceLeDiff, Nat.reduceMul, Nat.reduceBEq, Nat.reduceBneDiff, Nat.reduceLT, Nat.reduceSub, Int.ofNat_lt, Int.natCast_nonneg]
    refine callQ_self (ds := [eS 1 eB A.2[i].2[j]]) (by rfl) (hc2 A.2[i].2[j] (by omega)) ?_
    simp +contextual -implicitDefEqProofs only [eM, eI, eT, eG, eS, D.sub, D.put, D.cells, D.size, D.sizeL, D.isAg, modeOf, noPtrs, List.length_map, go_sem, eB, ↓reduceIte, Nat.reduceEqDiff, Nat.reduceAdd, Nat.reduceLeDiff, Nat.reduceMul, Nat.reduceBEq, Nat.reduceBneDiff, Nat.reduceLT, Nat.reduceSub, Int.ofNat_lt, Int.natCast_nonneg]
    refine ⟨by simp only [ByteArray.size_append, bitsT_size, bsz, List.size_toArray, List.length_cons, List.length_nil]; omega, by simp only [ByteArray.size_append, bitsT_size, bsz, List.size_toArray, List.length_cons, List.length_nil]; omega, j + 1, by omega, by omega, ?_⟩
    rw [wrap_i64 (by omega) (by omega)]
    exact Ent.to [] (by simp only [go_sem, ↓reduceIte, Nat.reduceEqDiff, Nat.reduceBEq, Nat.reduceBneDiff]; rfl) rfl (by simp) (by rfl) (by simp only [subEnv, go_sem, ↓reduceIte, Nat.reduceEqDiff, Nat.reduceBEq, keep, memN, Bool.or_false, Bool.false_or, Bool.or_self] <;> simp [ht2])
   ·obtain rfl : j = A.2[i].2.length := by omega
    have hz2 := actR_size (s := s2 ++ ⟨#[97, 99, 116]⟩) (l := A.2[i].2) fun r hr => by have := hq.2 r hr; omega
    simp only [ByteArray.size_append, bsz, List.size_toArray, List.length_cons, List.length_nil] at hz2
    simp +contextual -implicitDefEqProofs only [hi, hj, e1, List.take_length, eM, eI, eT, eG, eS, D.sub, D.put, D.cells, D.size, D.sizeL, D.isAg, modeOf, noPtrs, List.length_map, go_sem, eB, ↓reduceIte, Nat.reduceEqDiff, Nat.reduceAdd, Nat.reduceLeDiff, Nat.reduceMul, Nat.reduceBEq, Nat.reduceBneDiff, Nat.reduceLT, Nat.reduceSub, Int.ofNat_lt, Int.natCast_nonneg]
    refine ⟨by simp only [ByteArray.size_append, bitsT_size, bsz, List.size_toArray, List.length_cons, List.length_nil]; omega, i + 1, by omega, by omega, ?_⟩
    rw [wrap_i64 (by omega) (by omega)]
    exact Ent.to [] (by simp only [go_sem, ↓reduceIte, Nat.reduceEqDiff, Nat.reduceBEq, Nat.reduceBneDiff]; rfl) rfl (by simp) (by rfl) (by simp only [subEnv, go_sem, ↓reduceIte, Nat.reduceEqDiff, Nat.reduceBEq, keep, memN, Bool.or_false, Bool.false_or, Bool.or_self] <;> simp [ht])
  ·obtain rfl : i = A.2.length := by omega
   simp +contextual -implicitDefEqProofs only [hi, List.take_length, eM, eI, eT, eG, eS, D.sub, D.put, D.cells, D.size, D.sizeL, D.isAg, modeOf, noPtrs, List.length_map, go_sem, eB, ↓reduceIte, Nat.reduceEqDiff, Nat.reduceAdd, Nat.reduceLeDiff, Nat.reduceMul, Nat.reduceBEq, Nat.reduceBneDiff, Nat.reduceLT, Nat.reduceSub, Int.ofNat_lt, Int.natCast_nonneg]

def k_modelText (f1 f2 : Nat) : RC := (.seq (.reg false [⟨none, .box 1 5 (.t 0)⟩, ⟨none, .mv 2 (.c (.sc (.string ⟨#[]⟩)))⟩]) ((.seq (.reg true [⟨none, .fa 10 0 (.t 1)⟩, ⟨none, .fa 11 0 (.t 10)⟩, ⟨none, .ld 12 false 1 (.t 11)⟩, ⟨none, .call (some 13) f1 [(.t 12)]⟩, ⟨none, .bin 14 .add (.c (.sc (.string ⟨#[109, 111, 100, 101, 108, 32]⟩))) (.t 13)⟩, ⟨none, .bin 15 .add (.t 14) (.c (.sc (.string ⟨#[32]⟩)))⟩, ⟨none, .fa 16 0 (.t 1)⟩, ⟨none, .fa 17 1 (.t 16)⟩, ⟨none, .ld 18 false 1 (.t 17)⟩, ⟨none, .call (some 19) f1 [(.t 18)]⟩, ⟨none, .bin 20 .add (.t 15) (.t 19)⟩, ⟨none, .bin 21 .add (.t 20) (.c (.sc (.string ⟨#[32]⟩)))⟩, ⟨none, .fa 22 2 (.t 1)⟩, ⟨none, .ld 23 false 1 (.t 22)⟩, ⟨none, .call (some 24) f1 [(.t 23)]⟩, ⟨none, .bin 25 .add (.t 21) (.t 24)⟩, ⟨none, .bin 26 .add (.t 25) (.c (.sc (.string ⟨#[10]⟩)))⟩, ⟨none, .mv 3 (.t 26)⟩]) ((.seq ((.seq (.reg false [⟨none, .fa 27 3 (.t 1)⟩, ⟨none, .ld 28 false 1 (.t 27)⟩, ⟨none, .len 29 (.t 28)⟩, ⟨none, .mv 30 (.c (.sc (.int .i64 0)))⟩]) (.blk 0 (.loop ((.seq (.reg false [⟨none, .bin 31 .lss (.t 30) (.t 29)⟩]) ((.seq (.cond (.t 31) (.skip) (.exit 0)) ((.seq (.blk 1 ((.seq (.reg false [⟨none, .ia 32 1 (.t 28) (.t 30)⟩, ⟨none, .ld 33 false 1 (.t 32)⟩, ⟨none, .mv 5 (.t 33)⟩]) (.reg false [⟨none, .mv 34 (.t 3)⟩, ⟨none, .mv 35 (.t 5)⟩, ⟨none, .call (some 36) f2 [(.t 35)]⟩, ⟨none, .bin 37 .add (.c (.sc (.string ⟨#[116, 101, 115, 116, 32]⟩))) (.t 36)⟩, ⟨none, .bin 38 .add (.t 37) (.c (.sc (.string ⟨#[10]⟩)))⟩, ⟨none, .bin 39 .add (.t 34) (.t 38)⟩, ⟨none, .mv 3 (.t 39)⟩])))) (.reg false [⟨none, .bin 40 .add (.t 30) (.c (.sc (.int .i64 1)))⟩, ⟨none, .mv 30 (.t 40)⟩]))))))))))) ((.seq ((.seq (.reg false [⟨none, .fa 41 4 (.t 1)⟩, ⟨none, .ld 42 false 1 (.t 41)⟩, ⟨none, .len 43 (.t 42)⟩, ⟨none, .mv 44 (.c (.sc (.int .i64 0)))⟩]) (.blk 2 (.loop ((.seq (.reg false [⟨none, .bin 45 .lss (.t 44) (.t 43)⟩]) ((.seq (.cond (.t 45) (.skip) (.exit 2)) ((.seq (.blk 3 ((.seq (.reg false [⟨none, .ia 46 1 (.t 42) (.t 44)⟩, ⟨none, .ld 47 false 1 (.t 46)⟩, ⟨none, .mv 7 (.t 47)⟩]) ((.seq (.reg false [⟨none, .mv 48 (.t 3)⟩, ⟨none, .bin 49 .add (.t 48) (.c (.sc (.string ⟨#[97, 99, 116]⟩)))⟩, ⟨none, .mv 3 (.t 49)⟩]) ((.seq ((.seq (.reg false [⟨none, .mv 50 (.t 7)⟩, ⟨none, .len 51 (.t 50)⟩, ⟨none, .mv 52 (.c (.sc (.int .i64 0)))⟩]) (.blk 4 (.loop ((.seq (.reg false [⟨none, .bin 53 .lss (.t 52) (.t 51)⟩]) ((.seq (.cond (.t 53) (.skip) (.exit 4)) ((.seq (.blk 5 ((.seq (.reg false [⟨none, .ia 54 1 (.t 50) (.t 52)⟩, ⟨none, .ld 55 false 1 (.t 54)⟩, ⟨none, .mv 9 (.t 55)⟩]) (.reg false [⟨none, .mv 56 (.t 3)⟩, ⟨none, .mv 57 (.t 9)⟩, ⟨none, .call (some 58) f2 [(.t 57)]⟩, ⟨none, .bin 59 .add (.c (.sc (.string ⟨#[32]⟩))) (.t 58)⟩, ⟨none, .bin 60 .add (.t 56) (.t 59)⟩, ⟨none, .mv 3 (.t 60)⟩])))) (.reg false [⟨none, .bin 61 .add (.t 52) (.c (.sc (.int .i64 1)))⟩, ⟨none, .mv 52 (.t 61)⟩]))))))))))) (.reg false [⟨none, .mv 62 (.t 3)⟩, ⟨none, .bin 63 .add (.t 62) (.c (.sc (.string ⟨#[10]⟩)))⟩, ⟨none, .mv 3 (.t 63)⟩])))))))) (.reg false [⟨none, .bin 64 .add (.t 44) (.c (.sc (.int .i64 1)))⟩, ⟨none, .mv 44 (.t 64)⟩]))))))))))) ((.seq (.reg false [⟨none, .mv 65 (.t 3)⟩, ⟨none, .mv 2 (.t 65)⟩]) (.ret))))))))))
def K_modelText (P : Program) (fno : Nat) : Prop := ∀ (n : Nat) (T : SL (SL Bool)) (A : SL (SL (SL Bool))) (hM : MoOk ((T.2.length, A.2.length), n, T, A) n), AF P fno [eM ((T.2.length, A.2.length), n, T, A)] (.own (eT (modelT n T A)))
theorem a_modelText {P : Program} (hm : P.follows .mixedOrders = true) {g f1 f2 : Nat} (hr : resF P g = some (66, k_modelText f1 f2, [.t 2])) (hc1 : K_imDecimal P f1) (hc2 : K_digits P f2) : K_modelText P g := by
 intro n T A hM
 have hg := hM.g
 have hn := hM.n8
 have htr : ∀ r ∈ T.2, r.2.length = n := hM.tr
 have has : ∀ a ∈ A.2, Sq n a := hM.asq
 simp only [okG, isIn, Bool.and_eq_true, decide_eq_true_eq] at hg
 have hT : T.2.length ≤ 3 := by omega
 have hA : A.2.length ≤ 4 := by omega
 have dT := decB_size (n := T.2.length)
 have dA := decB_size (n := A.2.length)
 have dN := decB_size (n := n)
 refine af_of_res hr hm rfl fun hb => ?_
 simp +contextual -implicitDefEqProofs only [k_modelText, eM, eI, eT, eG, eS, D.at, D.sub, D.put, D.cells, D.size, D.sizeL, D.isAg, modeOf, noPtrs, List.length_map, go_sem, eB, ↓reduceIte, Nat.reduceEqDiff, Nat.reduceAdd, Nat.reduceLeDiff, Nat.reduceMul, Nat.reduceBEq, Nat.reduceBneDiff, Nat.reduceLT, Nat.reduceSub, Int.ofNat_lt, Int.natCast_nonneg]
 refine callQ_self (ds := [eI ((T.2.length : Nat) : Int)]) (by rfl) (hc1 T.2.length (by omega)) ?_
 simp +contextual -implicitDefEqProofs only [eM, eI, eT, eG, eS, D.at, D.sub, D.put, D.cells, D.size, D.sizeL, D.isAg, modeOf, noPtrs, List.length_map, go_sem, eB, ↓reduceIte, Nat.reduceEqDiff, Nat.reduceAdd, Nat.reduceLeDiff, Nat.reduceMul, Nat.reduceBEq, Nat.reduceBneDiff, Nat.reduceLT, Nat.reduceSub, Int.ofNat_lt, Int.natCast_nonneg]
 refine ⟨by simp only [ByteArray.size_append, bitsT_size, bsz, List.size_toArray, List.length_cons, List.length_nil]; omega, by simp only [ByteArray.size_append, bitsT_size, bsz, List.size_toArray, List.length_cons, List.length_nil]; omega, callQ_self (ds := [eI ((A.2.length : Nat) : Int)]) (by rfl) (hc1 A.2.length (by omega)) ?_⟩
 simp +contextual -implicitDefEqProofs only [eM, eI, eT, eG, eS, D.at, D.sub, D.put, D.cells, D.size, D.sizeL, D.isAg, modeOf, noPtrs, List.length_map, go_sem, eB, ↓reduceIte, Nat.reduceEqDiff, Nat.reduceAdd, Nat.reduceLeDiff, Nat.reduceMul, Nat.reduceBEq, Nat.reduceBneDiff, Nat.reduceLT, Nat.reduceSub, Int.ofNat_lt, Int.natCast_nonneg]
 refine ⟨by simp only [ByteArray.size_append, bitsT_size, bsz, List.size_toArray, List.length_cons, List.length_nil]; omega, by simp only [ByteArray.size_append, bitsT_size, bsz, List.size_toArray, List.length_cons, List.length_nil]; omega, callQ_self (ds := [eI ((n : Nat) : Int)]) (by rfl) (hc1 n (by omega)) ?_⟩
 simp +contextual -implicitDefEqProofs only [eM, eI, eT, eG, eS, D.at, D.sub, D.put, D.cells, D.size, D.sizeL, D.isAg, modeOf, noPtrs, List.length_map, go_sem, eB, ↓reduceIte, Nat.reduceEqDiff, Nat.reduceAdd, Nat.reduceLeDiff, Nat.reduceMul, Nat.reduceBEq, Nat.reduceBneDiff, Nat.reduceLT, Nat.reduceSub, Int.ofNat_lt, Int.natCast_nonneg]
 refine ⟨by simp only [ByteArray.size_append, bitsT_size, bsz, List.size_toArray, List.length_cons, List.length_nil]; omega, by simp only [ByteArray.size_append, bitsT_size, bsz, List.size_toArray, List.length_cons, List.length_nil]; omega, ?_⟩
 have hh := headT_size (t := T.2.length) (a := A.2.length) (p := n)
 refine vc_onU (α := Nat) [3, 5, 30, 31, 32, 33, 34, 35, 36, 37, 38, 39, 40] (fun i => [(30, .im none (.sc (.int .i64 i))), (3, .im none (.sc (.string (testT (headT T.2.length A.2.length n) (T.2.take i)))))]) (fun i => [(1, .ar false (some false) 5 [.ag [.sc (.int .i64 ((T.2.length : Nat) : Int)), .sc (.int .i64 ((A.2.length : Nat) : Int)), .sc (.int .i64 (n : Int)), .ls T.1 1 (T.2.map (eS 1 eB)), .ls A.1 1 (A.2.map (eS 1 (eS 1 eB)))]])]) (fun i => i ≤ T.2.length) (fun i => T.2.length - i) 0 (Ent.to [] (by simp only [go_sem, ↓reduceIte, Nat.reduceEqDiff, Nat.reduceBEq, Nat.reduceBneDiff]; rfl) rfl (by simp) (by rfl) (by simp only [subEnv, go_sem, ↓reduceIte, Nat.reduceEqDiff, Nat.reduceBEq, keep, memN, Bool.or_false, Bool.false_or, Bool.or_self] <;> simp [testT_nil, headT])) (Nat.zero_le _) ?_
 intro i hi0
 by_cases hi : i < T.2.length
 ·have e1 := at_map (f := eS 1 eB) hi
  have ht := testT_take (s := headT T.2.length A.2.length n) hi
  have hr2 : T.2[i].2.length = n := htr _ (List.getElem_mem hi)
  have hz := testT_size (s := headT T.2.length A.2.length n) (l := T.2.take i) fun r hr => by have := htr r (List.mem_of_mem_take hr); omega
  rw [List.length_take] at hz
  generalize testT (headT T.2.length A.2.length n) (T.2.take i) = s at ht hz ⊢
  simp +contextual -implicitDefEqProofs only [hi, e1, eM, eI, eT, eG, eS, D.sub, D.put, D.cells, D.size, D.sizeL, D.isAg, modeOf, noPtrs, List.length_map, go_sem, eB, ↓reduceIte, Nat.reduceEqDiff, Nat.reduceAdd, Nat.reduceLeDiff, Nat.reduceMul, Nat.reduceBEq, Nat.reduceBneDiff, Nat.reduceLT, Nat.reduceSub, Int.ofNat_lt, Int.natCast_nonneg]
  refine callQ_self (ds := [eS 1 eB T.2[i]]) (by rfl) (hc2 T.2[i] (by omega)) ?_
  simp +contextual -implicitDefEqProofs only [eM, eI, eT, eG, eS, D.sub, D.put, D.cells, D.size, D.sizeL, D.isAg, modeOf, noPtrs, List.length_map, go_sem, eB, ↓reduceIte, Nat.reduceEqDiff, Nat.reduceAdd, Nat.reduceLeDiff, Nat.reduceMul, Nat.reduceBEq, Nat.reduceBneDiff, Nat.reduceLT, Nat.reduceSub, Int.ofNat_lt, Int.natCast_nonneg]
  refine ⟨by simp only [ByteArray.size_append, bitsT_size, bsz, List.size_toArray, List.length_cons, List.length_nil]; omega, by simp only [ByteArray.size_append, bitsT_size, bsz, List.size_toArray, List.length_cons, List.length_nil]; omega, by simp only [ByteArray.size_append, bitsT_size, bsz, List.size_toArray, List.length_cons, List.length_nil]; omega, i + 1, by omega, by omega, ?_⟩
  rw [wrap_i64 (by omega) (by omega)]
  exact Ent.to [] (by simp only [go_sem, ↓reduceIte, Nat.reduceEqDiff, Nat.reduceBEq, Nat.reduceBneDiff]; rfl) rfl (by simp) (by rfl) (by simp only [subEnv, go_sem, ↓reduceIte, Nat.reduceEqDiff, Nat.reduceBEq, keep, memN, Bool.or_false, Bool.false_or, Bool.or_self] <;> simp [ht])
 ·obtain rfl : i = T.2.length := by omega
  simp +contextual -implicitDefEqProofs only [hi, List.take_length, eM, eI, eT, eG, eS, D.sub, D.put, D.cells, D.size, D.sizeL, D.isAg, modeOf, noPtrs, List.length_map, go_sem, eB, ↓reduceIte, Nat.reduceEqDiff, Nat.reduceAdd, Nat.reduceLeDiff, Nat.reduceMul, Nat.reduceBEq, Nat.reduceBneDiff, Nat.reduceLT, Nat.reduceSub, Int.ofNat_lt, Int.natCast_nonneg]
  have hz := testT_size (s := headT T.2.length A.2.length n) (l := T.2) fun r hr => by have := htr r hr; omega
  unfold modelT
  generalize testT (headT T.2.length A.2.length n) T.2 = s at hz ⊢
  clear hi hi0
  refine vc_onU (α := Nat) [3, 7, 9, 44, 45, 46, 47, 48, 49, 50, 51, 52, 53, 54, 55, 56, 57, 58, 59, 60, 61, 62, 63, 64] (fun i => [(44, .im none (.sc (.int .i64 i))), (3, .im none (.sc (.string (actT s (A.2.take i)))))]) (fun i => [(1, .ar false (some false) 5 [.ag [.sc (.int .i64 ((T.2.length : Nat) : Int)), .sc (.int .i64 ((A.2.length : Nat) : Int)), .sc (.int .i64 (n : Int)), .ls T.1 1 (T.2.map (eS 1 eB)), .ls A.1 1 (A.2.map (eS 1 (eS 1 eB)))]])]) (fun i => i ≤ A.2.length) (fun i => A.2.length - i) 0 (Ent.to [] (by simp only [go_sem, ↓reduceIte, Nat.reduceEqDiff, Nat.reduceBEq, Nat.reduceBneDiff]; rfl) rfl (by simp) (by rfl) (by simp only [subEnv, go_sem, ↓reduceIte, Nat.reduceEqDiff, Nat.reduceBEq, keep, memN, Bool.or_false, Bool.false_or, Bool.or_self] <;> simp [actT_nil])) (Nat.zero_le _) ?_
  intro i hi0
  by_cases hi : i < A.2.length
  ·have e1 := at_map (f := eS 1 (eS 1 eB)) hi
   have ht := actT_take (s := s) hi
   have hq : Sq n A.2[i] := has _ (List.getElem_mem hi)
   have hq1 : A.2[i].2.length = n := hq.1
   have hzA := actT_size (s := s) (l := A.2.take i) fun a ha => by have := has a (List.mem_of_mem_take ha); exact ⟨by have := this.1; omega, fun r hr => by have := this.2 r hr; omega⟩
   rw [List.length_take] at hzA
   generalize actT s (A.2.take i) = s2 at ht hzA ⊢
   simp +contextual -implicitDefEqProofs only [hi, e1, eM, eI, eT, eG, eS, D.sub, D.put, D.cells, D.size, D.sizeL, D.isAg, modeOf, noPtrs, List.length_map, go_sem, eB, ↓reduceIte, Nat.reduceEqDiff, Nat.reduceAdd, Nat.reduceLeDiff, Nat.reduceMul, Nat.reduceBEq, Nat.reduceBneDiff, Nat.reduceLT, Nat.reduceSub, Int.ofNat_lt, Int.natCast_nonneg]
   refine ⟨by simp only [ByteArray.size_append, bitsT_size, bsz, List.size_toArray, List.length_cons, List.length_nil]; omega, ?_⟩
   refine vc_onU (α := Nat) [3, 9, 52, 53, 54, 55, 56, 57, 58, 59, 60, 61] (fun j => [(52, .im none (.sc (.int .i64 j))), (3, .im none (.sc (.string (actR (s2 ++ ⟨#[97, 99, 116]⟩) (A.2[i].2.take j)))))]) (fun j => [(1, .ar false (some false) 5 [.ag [.sc (.int .i64 ((T.2.length : Nat) : Int)), .sc (.int .i64 ((A.2.length : Nat) : Int)), .sc (.int .i64 (n : Int)), .ls T.1 1 (T.2.map (eS 1 eB)), .ls A.1 1 (A.2.map (eS 1 (eS 1 eB)))]])]) (fun j => j ≤ A.2[i].2.length) (fun j => A.2[i].2.length - j) 0 (Ent.to [] (by simp only [go_sem, ↓reduceIte, Nat.reduceEqDiff, Nat.reduceBEq, Nat.reduceBneDiff]; rfl) rfl (by simp) (by rfl) (by simp only [subEnv, go_sem, ↓reduceIte, Nat.reduceEqDiff, Nat.reduceBEq, keep, memN, Bool.or_false, Bool.false_or, Bool.or_self] <;> simp [actR_nil])) (Nat.zero_le _) ?_
   intro j hj0
   by_cases hj : j < A.2[i].2.length
   ·have e2 := at_map (f := eS 1 eB) hj
    have ht2 := actR_take (s := s2 ++ ⟨#[97, 99, 116]⟩) hj
    have hr2 : A.2[i].2[j].2.length = n := hq.2 _ (List.getElem_mem hj)
    have hz2 := actR_size (s := s2 ++ ⟨#[97, 99, 116]⟩) (l := A.2[i].2.take j) fun r hr => by have := hq.2 r (List.mem_of_mem_take hr); omega
    rw [List.length_take] at hz2
    simp only [ByteArray.size_append, bsz, List.size_toArray, List.length_cons, List.length_nil] at hz2
    generalize actR (s2 ++ ⟨#[97, 99, 116]⟩) (A.2[i].2.take j) = s3 at ht2 hz2 ⊢
    simp +contextual -implicitDefEqProofs only [hi, hj, e1, e2, eM, eI, eT, eG, eS, D.sub, D.put, D.cells, D.size, D.sizeL, D.isAg, modeOf, noPtrs, List.length_map, go_sem, eB, ↓reduceIte, Nat.reduceEqDiff, Nat.reduceAdd, Nat.reduceLeDiff, Nat.reduceMul, Nat.reduceBEq, Nat.reduceBneDiff, Nat.reduceLT, Nat.reduceSub, Int.ofNat_lt, Int.natCast_nonneg]
    refine callQ_self (ds := [eS 1 eB A.2[i].2[j]]) (by rfl) (hc2 A.2[i].2[j] (by omega)) ?_
    simp +contextual -implicitDefEqProofs only [eM, eI, eT, eG, eS, D.sub, D.put, D.cells, D.size, D.sizeL, D.isAg, modeOf, noPtrs, List.length_map, go_sem, eB, ↓reduceIte, Nat.reduceEqDiff, Nat.reduceAdd, Nat.reduceLeDiff, Nat.reduceMul, Nat.reduceBEq, Nat.reduceBneDiff, Nat.reduceLT, Nat.reduceSub, Int.ofNat_lt, Int.natCast_nonneg]
    refine ⟨by simp only [ByteArray.size_append, bitsT_size, bsz, List.size_toArray, List.length_cons, List.length_nil]; omega, by simp only [ByteArray.size_append, bitsT_size, bsz, List.size_toArray, List.length_cons, List.length_nil]; omega, j + 1, by omega, by omega, ?_⟩
    rw [wrap_i64 (by omega) (by omega)]
    exact Ent.to [] (by simp only [go_sem, ↓reduceIte, Nat.reduceEqDiff, Nat.reduceBEq, Nat.reduceBneDiff]; rfl) rfl (by simp) (by rfl) (by simp only [subEnv, go_sem, ↓reduceIte, Nat.reduceEqDiff, Nat.reduceBEq, keep, memN, Bool.or_false, Bool.false_or, Bool.or_self] <;> simp [ht2])
   ·obtain rfl : j = A.2[i].2.length := by omega
    have hz2 := actR_size (s := s2 ++ ⟨#[97, 99, 116]⟩) (l := A.2[i].2) fun r hr => by have := hq.2 r hr; omega
    simp only [ByteArray.size_append, bsz, List.size_toArray, List.length_cons, List.length_nil] at hz2
    simp +contextual -implicitDefEqProofs only [hi, hj, e1, List.take_length, eM, eI, eT, eG, eS, D.sub, D.put, D.cells, D.size, D.sizeL, D.isAg, modeOf, noPtrs, List.length_map, go_sem, eB, ↓reduceIte, Nat.reduceEqDiff, Nat.reduceAdd, Nat.reduceLeDiff, Nat.reduceMul, Nat.reduceBEq, Nat.reduceBneDiff, Nat.reduceLT, Nat.reduceSub, Int.ofNat_lt, Int.natCast_nonneg]
    refine ⟨by simp only [ByteArray.size_append, bitsT_size, bsz, List.size_toArray, List.length_cons, List.length_nil]; omega, i + 1, by omega, by omega, ?_⟩
    rw [wrap_i64 (by omega) (by omega)]
    exact Ent.to [] (by simp only [go_sem, ↓reduceIte, Nat.reduceEqDiff, Nat.reduceBEq, Nat.reduceBneDiff]; rfl) rfl (by simp) (by rfl) (by simp only [subEnv, go_sem, ↓reduceIte, Nat.reduceEqDiff, Nat.reduceBEq, keep, memN, Bool.or_false, Bool.false_or, Bool.or_self] <;> simp [ht])
  ·obtain rfl : i = A.2.length := by omega
   simp +contextual -implicitDefEqProofs only [hi, List.take_length, eM, eI, eT, eG, eS, D.sub, D.put, D.cells, D.size, D.sizeL, D.isAg, modeOf, noPtrs, List.length_map, go_sem, eB, ↓reduceIte, Nat.reduceEqDiff, Nat.reduceAdd, Nat.reduceLeDiff, Nat.reduceMul, Nat.reduceBEq, Nat.reduceBneDiff, Nat.reduceLT, Nat.reduceSub, Int.ofNat_lt, Int.natCast_nonneg]

def txtMo (m : Mo) : ByteArray := if okMo m then modelT m.2.1.toNat m.2.2.1 m.2.2.2 else ⟨#[]⟩
theorem mo_split {m : Mo} (h : okMo m = true) : ∃ (n : Nat) (T : SL (SL Bool)) (A : SL (SL (SL Bool))), m = (((T.2.length : Int), (A.2.length : Int)), (n : Int), T, A) ∧ MoOk ((T.2.length, A.2.length), n, T, A) n := by
 obtain ⟨n, hM⟩ := okMo_ok h
 obtain ⟨⟨t, a⟩, p, T, A⟩ := m
 obtain rfl : p = n := hM.pts
 obtain rfl : (T.2.length : Int) = t := hM.tl
 obtain rfl : (A.2.length : Int) = a := hM.al
 exact ⟨n, T, A, rfl, hM⟩

def k_spModelText (f1 f2 : Nat) : RC := (.seq (.reg false [⟨none, .box 1 5 (.t 0)⟩, ⟨none, .mv 2 (.c (.sc (.string ⟨#[]⟩)))⟩]) ((.seq ((.seq (.reg false [⟨none, .call (some 3) f1 [(.t 1)]⟩, ⟨none, .un 4 .not (.t 3)⟩]) (.cond (.t 4) ((.seq (.reg false [⟨none, .mv 2 (.c (.sc (.string ⟨#[]⟩)))⟩]) (.ret))) (.skip)))) ((.seq (.reg false [⟨none, .call (some 5) f2 [(.t 1)]⟩, ⟨none, .mv 2 (.t 5)⟩]) (.ret))))))
def K_spModelText (P : Program) (fno : Nat) : Prop := ∀ (m : Mo), AF P fno [eM m] (.own (eT (txtMo m)))
theorem a_spModelText {P : Program} (hm : P.follows .mixedOrders = true) {g f1 f2 : Nat} (hr : resF P g = some (6, k_spModelText f1 f2, [.t 2])) (hc1 : K_l05Ok P f1) (hc2 : K_l05Text P f2) : K_spModelText P g := by
 intro m
 refine af_of_res hr hm rfl fun hb => ?_
 cases ho : okMo m
 ·obtain ⟨⟨t, a⟩, p, T, A⟩ := m
  simp +contextual -implicitDefEqProofs only [k_spModelText, eM, eI, eG, eS, D.put, D.cells, D.size, D.sizeL, D.isAg, modeOf, noPtrs, List.length_map, go_sem, eB, ↓reduceIte, Nat.reduceEqDiff, Nat.reduceAdd, Nat.reduceLeDiff, Nat.reduceMul, Nat.reduceBEq, Nat.reduceBneDiff, Nat.reduceLT, Nat.reduceSub, Int.ofNat_lt, Int.natCast_nonneg]
  refine callQ_self (ds := [.pt (eM ((t, a), p, T, A)) 0]) (by rfl) (hc1 _) ?_
  rw [ho]
  simp +contextual -implicitDefEqProofs only [eT, eB, txtMo, ho, bne, Bool.not_true, Bool.not_false, Bool.true_and, Bool.false_and, Bool.and_true, Bool.and_false, Bool.true_or, Bool.false_or, Bool.or_true, Bool.or_false, D.put, D.cells, D.size, D.sizeL, D.isAg, modeOf, noPtrs, List.length_map, go_sem, eI, ↓reduceIte, Nat.reduceEqDiff, Nat.reduceAdd, Nat.reduceLeDiff, Nat.reduceMul, Nat.reduceBEq, Nat.reduceBneDiff, Nat.reduceLT, Nat.reduceSub, Int.ofNat_lt, Int.natCast_nonneg]
 ·obtain ⟨n, T, A, rfl, hM⟩ := mo_split ho
  have e : txtMo ((T.2.length, A.2.length), n, T, A) = modelT n T A := by simp only [txtMo, ho, if_true, Int.toNat_natCast]
  rw [e]
  simp +contextual -implicitDefEqProofs only [k_spModelText, eM, eI, eG, eS, D.put, D.cells, D.size, D.sizeL, D.isAg, modeOf, noPtrs, List.length_map, go_sem, eB, ↓reduceIte, Nat.reduceEqDiff, Nat.reduceAdd, Nat.reduceLeDiff, Nat.reduceMul, Nat.reduceBEq, Nat.reduceBneDiff, Nat.reduceLT, Nat.reduceSub, Int.ofNat_lt, Int.natCast_nonneg]
  refine callQ_self (ds := [.pt (eM ((T.2.length, A.2.length), n, T, A)) 0]) (by rfl) (hc1 _) ?_
  rw [ho]
  simp +contextual -implicitDefEqProofs only [eT, eB, eM, eI, eG, eS, bne, Bool.not_true, Bool.not_false, Bool.true_and, Bool.false_and, Bool.and_true, Bool.and_false, Bool.true_or, Bool.false_or, Bool.or_true, Bool.or_false, D.put, D.cells, D.size, D.sizeL, D.isAg, modeOf, noPtrs, List.length_map, go_sem, ↓reduceIte, Nat.reduceEqDiff, Nat.reduceAdd, Nat.reduceLeDiff, Nat.reduceMul, Nat.reduceBEq, Nat.reduceBneDiff, Nat.reduceLT, Nat.reduceSub, Int.ofNat_lt, Int.natCast_nonneg]
  refine callQ_self (ds := [.pt (eM ((T.2.length, A.2.length), n, T, A)) 0]) (by rfl) (hc2 n T A hM) ?_
  simp +contextual -implicitDefEqProofs only [eT, D.put, D.cells, D.size, D.sizeL, D.isAg, modeOf, noPtrs, List.length_map, go_sem, eI, eB, ↓reduceIte, Nat.reduceEqDiff, Nat.reduceAdd, Nat.reduceLeDiff, Nat.reduceMul, Nat.reduceBEq, Nat.reduceBneDiff, Nat.reduceLT, Nat.reduceSub, Int.ofNat_lt, Int.natCast_nonneg]

def k_imModelText (f1 f2 : Nat) : RC := (.seq (.reg false [⟨none, .box 1 5 (.t 0)⟩, ⟨none, .mv 2 (.c (.sc (.string ⟨#[]⟩)))⟩]) ((.seq ((.seq (.reg false [⟨none, .ld 3 true 5 (.t 1)⟩, ⟨none, .call (some 4) f1 [(.t 3)]⟩, ⟨none, .un 5 .not (.t 4)⟩]) (.cond (.t 5) ((.seq (.reg false [⟨none, .mv 2 (.c (.sc (.string ⟨#[]⟩)))⟩]) (.ret))) (.skip)))) ((.seq (.reg false [⟨none, .ld 6 true 5 (.t 1)⟩, ⟨none, .call (some 7) f2 [(.t 6)]⟩, ⟨none, .mv 2 (.t 7)⟩]) (.ret))))))
def K_imModelText (P : Program) (fno : Nat) : Prop := ∀ (m : Mo), AF P fno [eM m] (.own (eT (txtMo m)))
theorem a_imModelText {P : Program} (hm : P.follows .mixedOrders = true) {g f1 f2 : Nat} (hr : resF P g = some (8, k_imModelText f1 f2, [.t 2])) (hc1 : K_validModel P f1) (hc2 : K_modelText P f2) : K_imModelText P g := by
 intro m
 refine af_of_res hr hm rfl fun hb => ?_
 cases ho : okMo m
 ·obtain ⟨⟨t, a⟩, p, T, A⟩ := m
  simp +contextual -implicitDefEqProofs only [k_imModelText, eM, eI, eG, eS, D.put, D.cells, D.size, D.sizeL, D.isAg, modeOf, noPtrs, List.length_map, go_sem, eB, ↓reduceIte, Nat.reduceEqDiff, Nat.reduceAdd, Nat.reduceLeDiff, Nat.reduceMul, Nat.reduceBEq, Nat.reduceBneDiff, Nat.reduceLT, Nat.reduceSub, Int.ofNat_lt, Int.natCast_nonneg]
  refine callQ_self (ds := [eM ((t, a), p, T, A)]) (by rfl) (hc1 _) ?_
  rw [ho]
  simp +contextual -implicitDefEqProofs only [eT, eB, txtMo, ho, bne, Bool.not_true, Bool.not_false, Bool.true_and, Bool.false_and, Bool.and_true, Bool.and_false, Bool.true_or, Bool.false_or, Bool.or_true, Bool.or_false, D.put, D.cells, D.size, D.sizeL, D.isAg, modeOf, noPtrs, List.length_map, go_sem, eI, ↓reduceIte, Nat.reduceEqDiff, Nat.reduceAdd, Nat.reduceLeDiff, Nat.reduceMul, Nat.reduceBEq, Nat.reduceBneDiff, Nat.reduceLT, Nat.reduceSub, Int.ofNat_lt, Int.natCast_nonneg]
 ·obtain ⟨n, T, A, rfl, hM⟩ := mo_split ho
  have e : txtMo ((T.2.length, A.2.length), n, T, A) = modelT n T A := by simp only [txtMo, ho, if_true, Int.toNat_natCast]
  rw [e]
  simp +contextual -implicitDefEqProofs only [k_imModelText, eM, eI, eG, eS, D.put, D.cells, D.size, D.sizeL, D.isAg, modeOf, noPtrs, List.length_map, go_sem, eB, ↓reduceIte, Nat.reduceEqDiff, Nat.reduceAdd, Nat.reduceLeDiff, Nat.reduceMul, Nat.reduceBEq, Nat.reduceBneDiff, Nat.reduceLT, Nat.reduceSub, Int.ofNat_lt, Int.natCast_nonneg]
  refine callQ_self (ds := [eM ((T.2.length, A.2.length), n, T, A)]) (by rfl) (hc1 _) ?_
  rw [ho]
  simp +contextual -implicitDefEqProofs only [eT, eB, eM, eI, eG, eS, bne, Bool.not_true, Bool.not_false, Bool.true_and, Bool.false_and, Bool.and_true, Bool.and_false, Bool.true_or, Bool.false_or, Bool.or_true, Bool.or_false, D.put, D.cells, D.size, D.sizeL, D.isAg, modeOf, noPtrs, List.length_map, go_sem, ↓reduceIte, Nat.reduceEqDiff, Nat.reduceAdd, Nat.reduceLeDiff, Nat.reduceMul, Nat.reduceBEq, Nat.reduceBneDiff, Nat.reduceLT, Nat.reduceSub, Int.ofNat_lt, Int.natCast_nonneg]
  refine callQ_self (ds := [eM ((T.2.length, A.2.length), n, T, A)]) (by rfl) (hc2 n T A hM) ?_
  simp +contextual -implicitDefEqProofs only [eT, D.put, D.cells, D.size, D.sizeL, D.isAg, modeOf, noPtrs, List.length_map, go_sem, eI, eB, ↓reduceIte, Nat.reduceEqDiff, Nat.reduceAdd, Nat.reduceLeDiff, Nat.reduceMul, Nat.reduceBEq, Nat.reduceBneDiff, Nat.reduceLT, Nat.reduceSub, Int.ofNat_lt, Int.natCast_nonneg]
end Go.Ax
