/- Contracts of functions of the seat, proved over the engine. No condition. -/
import Derived.Test.YtcmcncenncobfaaDoorXxA
import Derived.Test.YtcmcncenncobfaaDoorEnH
set_option linter.unusedSimpArgs false
set_option linter.unusedVariables false
set_option linter.unnecessarySimpa false
set_option linter.unusedSectionVars false
namespace Go.Ax
set_option maxRecDepth 20000
set_option maxHeartbeats 4000000
def eT (s : ByteArray) : D := .sc (.string s)
def d1 (n : Nat) : ByteArray := ⟨#[UInt8.ofNat (48 + n)]⟩

def decB (n : Nat) : ByteArray := if n < 10 then d1 n else d1 (n / 10) ++ d1 (n % 10)
theorem bsz {a : Array UInt8} : (ByteArray.mk a).size = a.size := rfl
theorem decB_size {n : Nat} : (decB n).size ≤ 2 := by
 unfold decB d1
 split <;> simp only [ByteArray.size_append, bsz, List.size_toArray, lK, lZ] <;> omega
theorem d1_size {n : Nat} : (d1 n).size = 1 := rfl
theorem decB_lt {n : Nat} (h : n < 10) : decB n = d1 n := by simp [decB, h]
theorem decB_ge {n : Nat} (h : ¬ n < 10) : decB n = d1 (n / 10) ++ d1 (n % 10) := by simp [decB, h]
theorem u8_d {n : Nat} (h : n < 10) : IntKind.u8.wrap (IntKind.i64.wrap (48 + (n : Int))) = ((48 + n : Nat) : Int) := by
 rw [wrap_i64 (by omega) (by omega)]
 unfold IntKind.wrap
 simp [IntKind.signed, IntKind.bits]
 omega

def k_spDecimal (g : Nat) : RC := (.seq (.r [⟨none, .mv 2 (.c (.sc (.string ⟨#[]⟩)))⟩]) (.seq (.seq (.r [.m 3 0, .o (.bin 4 .geq (.t 3) (.ci 10))]) (.cond (.t 4) (.seq (.reg true [.m 5 0, .o (.bin 6 .quo (.t 5) (.ci 10)), .c 7 g [.t 6], .m 8 0, .o (.bin 9 .rem (.t 8) (.ci 10)), .o (.bin 10 .add (.ci 48) (.t 9)), .o (.cvt 11 .u8 (.t 10)), .o (.bs 12 1 (.sc (.int .u8 0)) 1 [(0, (.t 11))]), .o (.cvs 13 (.t 12)), .o (.bin 14 .add (.t 7) (.t 13)), .m 2 14]) .ret) .skip)) (.seq (.r [.m 15 0, .o (.bin 16 .add (.ci 48) (.t 15)), .o (.cvt 17 .u8 (.t 16)), .o (.bs 18 1 (.sc (.int .u8 0)) 1 [(0, (.t 17))]), .o (.cvs 19 (.t 18)), .m 2 19]) .ret)))
def K_spDecimal (P : Program) (fno : Nat) : Prop := ∀ (n : Nat) (hn : n < 100), AF P fno [eI n] (.own (eT (decB n)))
theorem a_spDecimal {P : Program} (hm : P.follows .mixedOrders = true) {g : Nat} (hr : resF P g = some (20, k_spDecimal g, [.t 2])) : K_spDecimal P g := by
 intro n hn
 have h10 : ∀ n : Nat, n < 10 → AF P g [eI n] (.own (eT (decB n))) := by
  intro n hn
  refine af_of_res hr hm rfl fun hb => ?_
  have hd : ¬ ((n : Int) ≥ 10) := by omega
  simp +contextual -implicitDefEqProofs only [k_spDecimal, eI, eT, hd, D.put, D.cells, D.size, D.sizeL, D.isAg, modeOf, noPtrs, lM, go_sem, eB, ↓reduceIte, Nat.reduceEqDiff, Nat.reduceAdd, Nat.reduceLeDiff, Nat.reduceMul, Nat.reduceBEq, Nat.reduceBneDiff, Nat.reduceLT, Nat.reduceSub, iL, iN]
  refine ⟨by decide, D.Le.sc_eq ?_⟩
  rw [u8_d hn, decB_lt hn]
  rfl
 by_cases hd : n < 10
 ·exact h10 n hd
 refine af_of_res hr hm rfl fun hb => ?_
 have hd' : (n : Int) ≥ 10 := by omega
 simp +contextual -implicitDefEqProofs only [k_spDecimal, eI, eT, hd', D.put, D.cells, D.size, D.sizeL, D.isAg, modeOf, noPtrs, lM, go_sem, eB, ↓reduceIte, Nat.reduceEqDiff, Nat.reduceAdd, Nat.reduceLeDiff, Nat.reduceMul, Nat.reduceBEq, Nat.reduceBneDiff, Nat.reduceLT, Nat.reduceSub, iL, iN]
 have q1 : IntKind.i64.wrap ((n : Int).tdiv 10) = ((n / 10 : Nat) : Int) := by rw [Int.tdiv_eq_ediv_of_nonneg (by omega), wrap_i64 (by omega) (by omega)]; omega
 have q2 : (n : Int).tmod 10 = ((n % 10 : Nat) : Int) := by rw [Int.tmod_eq_emod_of_nonneg (by omega)]; omega
 rw [q1]
 refine ⟨by omega, callQ_self (ds := [eI ((n / 10 : Nat) : Int)]) (by rfl) (h10 (n / 10) (by omega)) ?_⟩
 simp +contextual -implicitDefEqProofs only [k_spDecimal, eI, eT, q2, decB_lt (show n / 10 < 10 by omega), D.put, D.cells, D.size, D.sizeL, D.isAg, modeOf, noPtrs, lM, go_sem, eB, ↓reduceIte, Nat.reduceEqDiff, Nat.reduceAdd, Nat.reduceLeDiff, Nat.reduceMul, Nat.reduceBEq, Nat.reduceBneDiff, Nat.reduceLT, Nat.reduceSub, iL, iN]
 refine ⟨by omega, by decide, ⟨by rw [d1_size]; exact (by omega : 1 + 1 ≤ 9223372036854775807), D.Le.sc_eq ?_⟩⟩
 rw [u8_d (by omega), decB_ge hd]
 rfl
theorem sm1 : ∀ n : Fin 10, (ByteArray.mk #[48, 49, 50, 51, 52, 53, 54, 55, 56, 57, 97, 98, 99, 100, 101, 102, 103, 104, 105, 106, 107, 108, 109, 110, 111, 112, 113, 114, 115, 116, 117, 118, 119, 120, 121, 122]).extract n.1 (n.1 + 1) = decB n.1 := by decide
theorem sm2 : ∀ n : Fin 100, ¬ n.1 < 10 → (ByteArray.mk #[48, 48, 48, 49, 48, 50, 48, 51, 48, 52, 48, 53, 48, 54, 48, 55, 48, 56, 48, 57, 49, 48, 49, 49, 49, 50, 49, 51, 49, 52, 49, 53, 49, 54, 49, 55, 49, 56, 49, 57, 50, 48, 50, 49, 50, 50, 50, 51, 50, 52, 50, 53, 50, 54, 50, 55, 50, 56, 50, 57, 51, 48, 51, 49, 51, 50, 51, 51, 51, 52, 51, 53, 51, 54, 51, 55, 51, 56, 51, 57, 52, 48, 52, 49, 52, 50, 52, 51, 52, 52, 52, 53, 52, 54, 52, 55, 52, 56, 52, 57, 53, 48, 53, 49, 53, 50, 53, 51, 53, 52, 53, 53, 53, 54, 53, 55, 53, 56, 53, 57, 54, 48, 54, 49, 54, 50, 54, 51, 54, 52, 54, 53, 54, 54, 54, 55, 54, 56, 54, 57, 55, 48, 55, 49, 55, 50, 55, 51, 55, 52, 55, 53, 55, 54, 55, 55, 55, 56, 55, 57, 56, 48, 56, 49, 56, 50, 56, 51, 56, 52, 56, 53, 56, 54, 56, 55, 56, 56, 56, 57, 57, 48, 57, 49, 57, 50, 57, 51, 57, 52, 57, 53, 57, 54, 57, 55, 57, 56, 57, 57]).extract (n.1 * 2) (n.1 * 2 + 2) = decB n.1 := by decide +kernel

def k_small : RC := (.seq (.r [⟨none, .mv 2 (.c (.sc (.string ⟨#[]⟩)))⟩]) (.seq (.seq (.r [.m 3 0, .o (.bin 4 .lss (.t 3) (.ci 10))]) (.cond (.t 4) (.seq (.r [.m 5 0, .m 6 0, .o (.bin 7 .add (.t 6) (.ci 1)), ⟨none, .sls 8 (.c (.sc (.string ⟨#[48, 49, 50, 51, 52, 53, 54, 55, 56, 57, 97, 98, 99, 100, 101, 102, 103, 104, 105, 106, 107, 108, 109, 110, 111, 112, 113, 114, 115, 116, 117, 118, 119, 120, 121, 122]⟩))) (some (.t 5)) (some (.t 7))⟩, .m 2 8]) .ret) .skip)) (.seq (.r [.m 9 0, .o (.bin 10 .mul (.t 9) (.ci 2)), .m 11 0, .o (.bin 12 .mul (.t 11) (.ci 2)), .o (.bin 13 .add (.t 12) (.ci 2)), ⟨none, .sls 14 (.c (.sc (.string ⟨#[48, 48, 48, 49, 48, 50, 48, 51, 48, 52, 48, 53, 48, 54, 48, 55, 48, 56, 48, 57, 49, 48, 49, 49, 49, 50, 49, 51, 49, 52, 49, 53, 49, 54, 49, 55, 49, 56, 49, 57, 50, 48, 50, 49, 50, 50, 50, 51, 50, 52, 50, 53, 50, 54, 50, 55, 50, 56, 50, 57, 51, 48, 51, 49, 51, 50, 51, 51, 51, 52, 51, 53, 51, 54, 51, 55, 51, 56, 51, 57, 52, 48, 52, 49, 52, 50, 52, 51, 52, 52, 52, 53, 52, 54, 52, 55, 52, 56, 52, 57, 53, 48, 53, 49, 53, 50, 53, 51, 53, 52, 53, 53, 53, 54, 53, 55, 53, 56, 53, 57, 54, 48, 54, 49, 54, 50, 54, 51, 54, 52, 54, 53, 54, 54, 54, 55, 54, 56, 54, 57, 55, 48, 55, 49, 55, 50, 55, 51, 55, 52, 55, 53, 55, 54, 55, 55, 55, 56, 55, 57, 56, 48, 56, 49, 56, 50, 56, 51, 56, 52, 56, 53, 56, 54, 56, 55, 56, 56, 56, 57, 57, 48, 57, 49, 57, 50, 57, 51, 57, 52, 57, 53, 57, 54, 57, 55, 57, 56, 57, 57]⟩))) (some (.t 10)) (some (.t 13))⟩, .m 2 14]) .ret)))
def K_small (P : Program) (fno : Nat) : Prop := ∀ (n : Nat) (hn : n < 100), AF P fno [eI n] (.own (eT (decB n)))
theorem a_small {P : Program} (hm : P.follows .mixedOrders = true) {g : Nat} (hr : resF P g = some (15, k_small, [.t 2])) : K_small P g := by
 intro n hn
 refine af_of_res hr hm rfl fun hb => ?_
 by_cases hd : n < 10
 ·have hd' : (n : Int) < 10 := by omega
  have e := sm1 ⟨n, hd⟩
  simp only at e
  simp +contextual -implicitDefEqProofs only [k_small, eI, eT, hd', D.put, D.cells, D.size, D.sizeL, D.isAg, modeOf, noPtrs, lM, go_sem, eB, ↓reduceIte, Nat.reduceEqDiff, Nat.reduceAdd, Nat.reduceLeDiff, Nat.reduceMul, Nat.reduceBEq, Nat.reduceBneDiff, Nat.reduceLT, Nat.reduceSub, iL, iN]
  rw [show IntKind.i64.wrap ((n : Int) + 1) = ((n + 1 : Nat) : Int) by rw [wrap_i64 (by omega) (by omega)]; omega]
  refine ⟨⟨by omega, ?_⟩, D.Le.sc_eq ?_⟩
  ·show ((n + 1 : Nat) : Int) ≤ ((36 : Nat) : Int)
   omega
  ·exact congrArg _ e
 ·have hd' : ¬ (n : Int) < 10 := by omega
  have e := sm2 ⟨n, hn⟩ hd
  simp only at e
  simp +contextual -implicitDefEqProofs only [k_small, eI, eT, hd', D.put, D.cells, D.size, D.sizeL, D.isAg, modeOf, noPtrs, lM, go_sem, eB, ↓reduceIte, Nat.reduceEqDiff, Nat.reduceAdd, Nat.reduceLeDiff, Nat.reduceMul, Nat.reduceBEq, Nat.reduceBneDiff, Nat.reduceLT, Nat.reduceSub, iL, iN]
  rw [show IntKind.i64.wrap ((n : Int) * 2) = ((n * 2 : Nat) : Int) by rw [wrap_i64 (by omega) (by omega)]; omega, show IntKind.i64.wrap (((n * 2 : Nat) : Int) + 2) = ((n * 2 + 2 : Nat) : Int) by rw [wrap_i64 (by omega) (by omega)]; omega]
  refine ⟨⟨by omega, by omega, ?_⟩, D.Le.sc_eq ?_⟩
  ·show ((n * 2 + 2 : Nat) : Int) ≤ ((200 : Nat) : Int)
   omega
  ·exact congrArg _ e

def k_formatInt (f1 f2 f3 f4 : Nat) (o1 o2 o3 o4 : Oper) : RC := (.seq (.r [⟨none, .mv 4 (.c (.sc (.string ⟨#[]⟩)))⟩]) (.seq (.seq (.r [.m 10 1, .q 11 10 10]) (.cond (.t 11) (.seq (.seq (.r [.m 12 0, .o (.bin 13 .leq (.ci 0) (.t 12)), .m 14 13, .wm 14 15 0, .w 14 (.bin 16 .lss (.t 15) (.ci 100)), .k 17 14 16]) (.cond (.t 17) (.seq (.r [.m 18 0, .c 19 f1 [.t 18], .m 4 19]) .ret) .skip)) (.seq (.r [.o (.zer 5 24 (.ag [(.sc (.int .u8 0)), (.sc (.int .u8 0)), (.sc (.int .u8 0)), (.sc (.int .u8 0)), (.sc (.int .u8 0)), (.sc (.int .u8 0)), (.sc (.int .u8 0)), (.sc (.int .u8 0)), (.sc (.int .u8 0)), (.sc (.int .u8 0)), (.sc (.int .u8 0)), (.sc (.int .u8 0)), (.sc (.int .u8 0)), (.sc (.int .u8 0)), (.sc (.int .u8 0)), (.sc (.int .u8 0)), (.sc (.int .u8 0)), (.sc (.int .u8 0)), (.sc (.int .u8 0)), (.sc (.int .u8 0)), (.sc (.int .u8 0)), (.sc (.int .u8 0)), (.sc (.int .u8 0)), (.sc (.int .u8 0))]))]) (.seq (.r [.m 20 0, .o (.cvt 21 .u64 (.t 20)), .m 6 21]) (.seq (.seq (.r [.m 22 0, .o (.bin 23 .lss (.t 22) (.ci 0))]) (.cond (.t 23) (.r [.m 24 6, .o (.un 25 .neg (.t 24)), .m 6 25]) .skip)) (.seq (.r [.m 26 6, .c 27 f2 [.t 26], .m 7 27]) (.seq (.r [.m 28 7, .o (.bin 29 .add (.ci 1) (.t 28)), .o (.other o1), .m 31 6, .c 32 f3 [.t 30, .t 31]]) (.seq (.seq (.r [.m 33 0, .o (.bin 34 .lss (.t 33) (.ci 0))]) (.cond (.t 34) (.seq (.r [.o (.other o2), .o (.st 1 (.t 35) (.c (.sc (.int .u8 45))))]) (.seq (.r [.m 36 7, .o (.bin 37 .add (.ci 1) (.t 36)), .o (.other o3), .o (.cvs 39 (.t 38)), .m 4 39]) .ret)) .skip)) (.seq (.r [.m 40 7, .o (.bin 41 .add (.ci 1) (.t 40)), .o (.other o4), .o (.cvs 43 (.t 42)), .m 4 43]) .ret)))))))) .skip)) (.seq (.r [.m 45 0, .o (.cvt 46 .u64 (.t 45)), .m 47 1, .m 48 0, .o (.bin 49 .lss (.t 48) (.ci 0)), .o (.call (some 50) f4 [(.c (.ls (some true) 1 [])), .t 46, .t 47, .t 49, .cf]), .m 44 50, .o (.ext 51 (.t 44) 0), .o (.ext 52 (.t 44) 1), .m 8 51, .m 9 52]) (.seq (.r [.m 53 9, .m 4 53]) .ret))))
def K_formatInt (P : Program) (fno : Nat) : Prop := ∀ (n : Nat) (hn : n < 100), AF P fno [eI n, eI 10] (.own (eT (decB n)))
theorem a_formatInt {P : Program} (hm : P.follows .mixedOrders = true) {g f1 f2 f3 f4 : Nat} {o1 o2 o3 o4 : Oper} (hr : resF P g = some (54, k_formatInt f1 f2 f3 f4 o1 o2 o3 o4, [.t 4])) (hc1 : K_small P f1) : K_formatInt P g := by
 intro n hn
 have h0 : (0 : Int) ≤ n := by omega
 have h1 : (n : Int) < 100 := by omega
 refine af_of_res hr hm rfl fun hb => ?_
 simp +contextual -implicitDefEqProofs only [k_formatInt, eI, eT, h0, h1, D.put, D.cells, D.size, D.sizeL, D.isAg, modeOf, noPtrs, lM, go_sem, eB, ↓reduceIte, Nat.reduceEqDiff, Nat.reduceAdd, Nat.reduceLeDiff, Nat.reduceMul, Nat.reduceBEq, Nat.reduceBneDiff, Nat.reduceLT, Nat.reduceSub, iL, iN]
 refine callQ_self (ds := [eI n]) (by rfl) (hc1 n hn) ?_
 simp +contextual -implicitDefEqProofs only [eI, eT, D.put, D.cells, D.size, D.sizeL, D.isAg, modeOf, noPtrs, lM, go_sem, eB, ↓reduceIte, Nat.reduceEqDiff, Nat.reduceAdd, Nat.reduceLeDiff, Nat.reduceMul, Nat.reduceBEq, Nat.reduceBneDiff, Nat.reduceLT, Nat.reduceSub, iL, iN]

def k_formatIntS (f1 : Nat) : RC := (.seq (.r [⟨none, .mv 4 (.c (.sc (.string ⟨#[]⟩)))⟩]) (.seq (.r [.m 5 0, .m 6 1, .c 7 f1 [.t 5, .t 6], .m 4 7]) .ret))
def K_formatIntS (P : Program) (fno : Nat) : Prop := ∀ (n : Nat) (hn : n < 100), AF P fno [eI n, eI 10] (.own (eT (decB n)))
theorem a_formatIntS {P : Program} (hm : P.follows .mixedOrders = true) {g f1 : Nat} (hr : resF P g = some (8, k_formatIntS f1, [.t 4])) (hc1 : K_formatInt P f1) : K_formatIntS P g := by
 intro n hn
 refine af_of_res hr hm rfl fun hb => ?_
 simp +contextual -implicitDefEqProofs only [k_formatIntS, eI, eT, D.put, D.cells, D.size, D.sizeL, D.isAg, modeOf, noPtrs, lM, go_sem, eB, ↓reduceIte, Nat.reduceEqDiff, Nat.reduceAdd, Nat.reduceLeDiff, Nat.reduceMul, Nat.reduceBEq, Nat.reduceBneDiff, Nat.reduceLT, Nat.reduceSub, iL, iN]
 refine callQ_self (ds := [eI n, eI 10]) (by rfl) (hc1 n hn) ?_
 simp +contextual -implicitDefEqProofs only [eI, eT, D.put, D.cells, D.size, D.sizeL, D.isAg, modeOf, noPtrs, lM, go_sem, eB, ↓reduceIte, Nat.reduceEqDiff, Nat.reduceAdd, Nat.reduceLeDiff, Nat.reduceMul, Nat.reduceBEq, Nat.reduceBneDiff, Nat.reduceLT, Nat.reduceSub, iL, iN]

def k_imDecimal (f1 : Nat) : RC := (.seq (.r [⟨none, .mv 2 (.c (.sc (.string ⟨#[]⟩)))⟩]) (.seq (.r [.m 3 0, .c 4 f1 [.t 3, .ci 10], .m 2 4]) .ret))
def K_imDecimal (P : Program) (fno : Nat) : Prop := ∀ (n : Nat) (hn : n < 100), AF P fno [eI n] (.own (eT (decB n)))
theorem a_imDecimal {P : Program} (hm : P.follows .mixedOrders = true) {g f1 : Nat} (hr : resF P g = some (5, k_imDecimal f1, [.t 2])) (hc1 : K_formatIntS P f1) : K_imDecimal P g := by
 intro n hn
 refine af_of_res hr hm rfl fun hb => ?_
 simp +contextual -implicitDefEqProofs only [k_imDecimal, eI, eT, D.put, D.cells, D.size, D.sizeL, D.isAg, modeOf, noPtrs, lM, go_sem, eB, ↓reduceIte, Nat.reduceEqDiff, Nat.reduceAdd, Nat.reduceLeDiff, Nat.reduceMul, Nat.reduceBEq, Nat.reduceBneDiff, Nat.reduceLT, Nat.reduceSub, iL, iN]
 refine callQ_self (ds := [eI n, eI 10]) (by rfl) (hc1 n hn) ?_
 simp +contextual -implicitDefEqProofs only [eI, eT, D.put, D.cells, D.size, D.sizeL, D.isAg, modeOf, noPtrs, lM, go_sem, eB, ↓reduceIte, Nat.reduceEqDiff, Nat.reduceAdd, Nat.reduceLeDiff, Nat.reduceMul, Nat.reduceBEq, Nat.reduceBneDiff, Nat.reduceLT, Nat.reduceSub, iL, iN]
def b1 (b : Bool) : ByteArray := if b then ⟨#[49]⟩ else ⟨#[48]⟩
theorem foldl_take {α β : Type} {f : β → α → β} {s : β} {l : List α} {i : Nat} (h : i < l.length) : (l.take (i + 1)).foldl f s = f ((l.take i).foldl f s) l[i] := by
 rw [List.take_succ_eq_append_getElem h]
 simp only [List.foldl_append, List.foldl_cons, List.foldl_nil]
theorem foldl_size {α : Type} {f : ByteArray → α → ByteArray} {c : Nat} : ∀ (l : List α) (s : ByteArray), (∀ s x, x ∈ l → (f s x).size ≤ s.size + c) → (l.foldl f s).size ≤ s.size + c * l.length
 | [], s, _ => by simp
 | x :: l, s, h => by
  rw [List.foldl_cons]
  have h1 := foldl_size (f := f) (c := c) l (f s x) (fun s y hy => h s y (List.mem_cons_of_mem _ hy))
  have h2 := h s x List.mem_cons_self
  rw [lK, Nat.mul_succ]
  omega
variable {P : Program}

def ghB (b : Nat) (F : List Nat) (sh : Nat → Prop) : Gh := { β := fun k => if k = 3000000000 then some b else none, φ := fun k => if k = 3000000000 then b :: F else [], root := fun _ => default, cap := fun _ => 0, Sh := sh }

theorem args_vrep {h : Heap} {old : Nat → Prop} {us : List (Nat × U)} {g : Gh} (hg : ∀ b, old b → b < h.size → g.Sh b) : ∀ {ds : List D} {vs : List Value}, ArgsRep h old ds vs → VRepL h us g (ds.map (.im none)) vs
 | [], vs, ha => by simpa [ArgsRep, VRepL] using ha
 | d :: ds, vs, ha => by
  simp only [ArgsRep] at ha
  obtain ⟨v, r, F, rfl, h1, h2, h3, h4⟩ := ha
  simp only [lC, VRepL]
  refine ⟨v, r, rfl, ?_, args_vrep hg h4⟩
  simp only [VRep]
  exact ⟨F, h1, h2, fun b hb => .inl (hg b (h3 b hb) (h1.lt b hb))⟩

theorem afb_of_afw {f T E : Nat} {ds : List D} {t : ByteArray} (ht : t.size ≤ 140737488355328)
  (h : ∀ s : ByteArray, s.size + t.size ≤ 140737488355328 → AFW P f [.sb T E s] (.ps 3000000000 :: ds.map (.im none)) [.sb T E (s ++ t)] (.tup [])) : AFB P f T E ds t := by
 refine ⟨(h ⟨#[]⟩ (by show 0 + t.size ≤ _; omega)).1, fun w vs old b s F hwk hgt hs hb hnb hu hold ha => ?_⟩
 have hlt := hb.lt
 have hfp : fp (ghB b F fun x => old x ∧ x < w.heap.size) (wids 0 [.sb T E s]) = b :: F := by simp [fp, wids, ghB]
 have hW : WSat w.heap old [.sb T E s] (ghB b F fun x => old x ∧ x < w.heap.size) := by
  refine ⟨?_, ?_, ?_, ?_, ?_, ?_, ?_⟩
  ·rw [hfp]; exact List.nodup_cons.2 ⟨hnb, hb.nd⟩
  ·rw [hfp]; exact hlt
  ·rw [hfp]; exact hu
  ·intro k hk
   simp only [wids, lC, lN, List.mem_singleton, Nat.add_zero] at hk
   simp [ghB, hk]
  ·intro x hx
   have hx' : old x ∧ x < w.heap.size := hx
   exact ⟨hx'.2, hx'.1, by rw [hfp]; exact hold x hx'.1⟩
  ·intro x hx
   simp only [wids, List.mem_singleton, Nat.add_zero] at hx
   subst hx
   simp only [UOk]
   exact ⟨b, F, by simp [ghB], by simp [ghB], hb⟩
  ·intro x hx _
   simp only [wids, List.mem_singleton, Nat.add_zero] at hx
   subst hx
   simp [ghB]
 have hV : VRepL w.heap (wids 0 [.sb T E s]) (ghB b F fun x => old x ∧ x < w.heap.size) (.ps 3000000000 :: ds.map (.im none)) (.pointer (some ⟨b, 0, none⟩) :: vs) := by
  simp only [VRepL]
  refine ⟨_, _, rfl, ?_, args_vrep (g := ghB b F fun x => old x ∧ x < w.heap.size) (fun x h1 h2 => show old x ∧ x < w.heap.size from ⟨h1, h2⟩) ha⟩
  simp only [VRep]
  exact ⟨T, E, s, b, by simp [wids], by simp [ghB], rfl⟩
 refine ((h s hs).2.2 w _ old _ hwk (by rw [hfp]; exact hgt) hW hV).mono ?_
 rintro e w' ⟨v, F', g', rfl, h1, h2, h3, h4, h5, h6, h7⟩
 rw [hfp] at h5
 refine ⟨⟨v, rfl⟩, h1, h2, h3, h4, h5, ?_⟩
 have hm : ((3000000000, U.sb T E (s ++ t)) : Nat × U) ∈ wids 0 [.sb T E (s ++ t)] := by simp [wids]
 have hU := h6.each _ hm
 have hp := (h6.pin _ hm).1
 simp only [UOk] at hU
 obtain ⟨b', F2, q1, q2, q3⟩ := hU
 have hbb : b' = b := by
  simp only [ghB, if_true] at hp
  rw [q1] at hp
  exact Option.some.inj hp
 subst hbb
 have hfp2 : fp g' (wids 0 [.sb T E (s ++ t)]) = b' :: F2 := by simp [fp, wids, q2]
 have hnd := h6.nodup
 have hall := h6.all
 rw [hfp2] at hnd hall
 rw [hfp] at hall
 have hnd2 := (List.nodup_append.1 hnd).2.1
 refine ⟨F2, q3, (List.nodup_cons.1 hnd2).1, fun x hx => ?_⟩
 have hx2 := hall x (by simp [hx])
 rcases Nat.lt_or_ge x w.heap.size with hl | hl
 ·have := hx2.2.2.1 hl
  rcases List.mem_cons.1 this with rfl | this
  ·exact absurd hx (List.nodup_cons.1 hnd2).1
  ·exact .inl this
 ·exact .inr hl

theorem bdAs_im : ∀ {ds : List D}, bdAs (ds.map (AV.im none)) → D.bdL ds
 | [], _ => by simp [D.bdL]
 | d :: ds, h => by
  simp only [lC, bdAs, bdA] at h
  simp only [D.bdL]
  exact ⟨h.1, bdAs_im h.2⟩

theorem afb_of_res {wv : Wv} {f n : Nat} {rc : RC} {xs : List RV} (h : resFw P wv f = some (n, rc, xs)) (hm : P.follows .mixedOrders = true) {T E : Nat} {ds : List D} {t : ByteArray} (hn : decide (ds.length + 1 ≤ n) = true) (ht : t.size ≤ 140737488355328)
  (hq : D.bdL ds → ∀ s : ByteArray, s.size + t.size ≤ 140737488355328 → vcR P rc (stW n [.sb T E s] (.ps 3000000000 :: ds.map (.im none))) (retWE xs [.sb T E (s ++ t)] (.tup []))) : AFB P f T E ds t :=
 afb_of_afw ht fun s hs => afw_of_res h hm (by simpa using hn) (by rfl) (by simp [pinUs, U.isPin, okUs]) fun _ hb => hq (bdAs_im (by simpa [bdAs, bdA] using hb)) s hs
theorem sub_agt {ds : List D} {j sz : Nat} : D.sub (.ag ds) j sz true = .ag ((ds.drop j).take sz) := rfl
theorem sub_agf {ds : List D} {j sz : Nat} : D.sub (.ag ds) j sz false = ds.getD j default := rfl
theorem bwr_self {dst : Option Nat} {f id T E : Nat} {ys : List AV} {st : St} {k : St → Prop} {s t : ByteArray} (ds : List D) (hu : st.unit id = some (.sb T E s)) (hs : ys.all AV.shared = true) (ha : argsOf st.unit ys = some ds) (h : AFB P f T E ds t)
  (hz : s.size + t.size ≤ 140737488355328) (hk : k ((st.upd id (.sb T E (s ++ t))).setO dst .any)) : bwrK (.ps id) P dst f ys st k := by
 unfold bwrK
 simp only [hu, bwrU]
 exact ⟨hs, ds, ds, t, ha, D.LeL.refl ds, h, hz, hk⟩
theorem bst_self {d f id T E : Nat} {st : St} {k : St → Prop} {s : ByteArray} (hu : st.unit id = some (.sb T E s)) (h : AFS P f T E) (hk : k ((st.del id).set d (.im none (.sc (.string s))))) : bstK (.ps id) P d f st k := by
 unfold bstK
 simp only [hu, bstU]
 exact ⟨h, hk⟩
end Go.Ax
namespace Go.Ax
set_option maxRecDepth 20000
set_option maxHeartbeats 4000000

def textOp (k v : Int) (ts : List ByteArray) : ByteArray :=
 if k = 1 then ⟨#[48]⟩ else if k = 2 then ⟨#[49]⟩ else if k = 3 then ⟨#[116]⟩ ++ decB v.toNat else if k = 4 then ⟨#[97]⟩ ++ decB v.toNat
 else if k = 5 then ⟨#[126]⟩ ++ ts.getD 0 ⟨#[]⟩ else if k = 6 then ⟨#[40]⟩ ++ ts.getD 0 ⟨#[]⟩ ++ ⟨#[32, 43, 32]⟩ ++ ts.getD 1 ⟨#[]⟩ ++ ⟨#[41]⟩
 else if k = 7 then ⟨#[40]⟩ ++ ts.getD 0 ⟨#[]⟩ ++ ⟨#[32]⟩ ++ ts.getD 1 ⟨#[]⟩ ++ ⟨#[41]⟩ else ts.getD 0 ⟨#[]⟩ ++ ⟨#[42]⟩
mutual
def textE : Ex → ByteArray
 | .mk k v _ ks => textOp k v (textEs ks)
def textEs : List Ex → List ByteArray
 | [] => []
 | e :: es => textE e :: textEs es
end
theorem textEs_map : ∀ {ks : List Ex}, textEs ks = ks.map textE
 | [] => rfl
 | e :: es => by rw [textEs, textEs_map]; rfl
theorem textE_mk {k v : Int} {nn : Option Bool} {ks : List Ex} : textE (.mk k v nn ks) = textOp k v (ks.map textE) := by rw [textE, textEs_map]
theorem e_app {s : ByteArray} : (⟨#[]⟩ : ByteArray) ++ s = s := ByteArray.empty_append
inductive TxOk (k v : Int) (ks : List Ex) : Prop
 | zero (h : k = 1) (hk : ks = [])
 | one (h : k = 2) (hk : ks = [])
 | test (h : k = 3) (hk : ks = []) (n : Nat) (hv : v = n) (hn : n < 100)
 | act (h : k = 4) (hk : ks = []) (n : Nat) (hv : v = n) (hn : n < 100)
 | nt (h : k = 5) (a : Ex) (hk : ks = [a])
 | sum (h : k = 6) (a b : Ex) (hk : ks = [a, b])
 | dot (h : k = 7) (a b : Ex) (hk : ks = [a, b])
 | star (h : k = 8) (a : Ex) (hk : ks = [a])
theorem tx_ok {g : Int × Int} (hg : okG g = true) {k v : Int} {ks : List Ex} (h : formOk g k v ks = true) : TxOk k v ks := by
 simp only [okG, bA, isIn_iff'] at hg
 have hw1 : IntKind.i64.wrap (g.1 - 1) = g.1 - 1 := wrap_i64 (by omega) (by omega)
 have hw2 : IntKind.i64.wrap (g.2 - 1) = g.2 - 1 := wrap_i64 (by omega) (by omega)
 simp only [formOk, bA, beq_iff_eq, hw1, hw2] at h
 obtain ⟨hk, hv⟩ := h
 unfold kidsN at hk
 have e0 : ∀ {l : List Ex}, (0 : Int) = l.length → l = [] := fun h => List.eq_nil_of_length_eq_zero (by omega)
 have e1 : ∀ {l : List Ex}, (1 : Int) = l.length → ∃ a, l = [a] := fun {l} h => by
  match l, h with
  | [a], _ => exact ⟨a, rfl⟩
  | [], h => simp at h
  | _ :: _ :: _, h => simp at h; omega
 have e2 : ∀ {l : List Ex}, (2 : Int) = l.length → ∃ a b, l = [a, b] := fun {l} h => by
  match l, h with
  | [a, b], _ => exact ⟨a, b, rfl⟩
  | [], h => simp at h
  | [_], h => simp at h
  | _ :: _ :: _ :: _, h => simp at h; omega
 by_cases h1 : k = 1
 ·subst h1; exact .zero rfl (e0 (by simpa using hk))
 by_cases h2 : k = 2
 ·subst h2; exact .one rfl (e0 (by simpa using hk))
 by_cases h3 : k = 3
 ·subst h3
  rw [if_pos rfl, isIn_iff'] at hv
  exact .test rfl (e0 (by simpa using hk)) v.toNat (by omega) (by omega)
 by_cases h4 : k = 4
 ·subst h4
  rw [if_neg (by omega), if_pos rfl, isIn_iff'] at hv
  exact .act rfl (e0 (by simpa using hk)) v.toNat (by omega) (by omega)
 by_cases h5 : k = 5
 ·subst h5; obtain ⟨a, hk⟩ := e1 (by simpa using hk); exact .nt rfl a hk
 by_cases h6 : k = 6
 ·subst h6; obtain ⟨a, b, hk⟩ := e2 (by simpa using hk); exact .sum rfl a b hk
 by_cases h7 : k = 7
 ·subst h7; obtain ⟨a, b, hk⟩ := e2 (by simpa using hk); exact .dot rfl a b hk
 by_cases h8 : k = 8
 ·subst h8; obtain ⟨a, hk⟩ := e1 (by simpa using hk); exact .star rfl a hk
 exact absurd hk (by simp [h1, h2, h3, h4, h5, h6, h7, h8])

def k_l01Text (g f1 : Nat) : RC := (.seq (.r [⟨none, .mv 2 (.c (.sc (.string ⟨#[]⟩)))⟩]) (.seq (.seq (.r [.m 3 0, .n 4 3, .f 5 0 4, .l 6 1 5]) (.blk 0 (.seq (.r [.q 8 6 1, .m 7 8]) (.cond (.t 7) (.seq (.r [⟨none, .mv 2 (.c (.sc (.string ⟨#[48]⟩)))⟩]) .ret) (.seq (.r [.q 10 6 2, .m 9 10]) (.cond (.t 9) (.seq (.r [⟨none, .mv 2 (.c (.sc (.string ⟨#[49]⟩)))⟩]) .ret) (.seq (.r [.q 12 6 3, .m 11 12]) (.cond (.t 11) (.seq (.r [.m 13 0, .n 14 13, .f 15 1 14, .l 16 1 15, .c 17 f1 [.t 16], ⟨none, .bin 18 .add (.c (.sc (.string ⟨#[116]⟩))) (.t 17)⟩, .m 2 18]) .ret) (.seq (.r [.q 20 6 4, .m 19 20]) (.cond (.t 19) (.seq (.r [.m 21 0, .n 22 21, .f 23 1 22, .l 24 1 23, .c 25 f1 [.t 24], ⟨none, .bin 26 .add (.c (.sc (.string ⟨#[97]⟩))) (.t 25)⟩, .m 2 26]) .ret) (.seq (.r [.q 28 6 5, .m 27 28]) (.cond (.t 27) (.seq (.r [.m 29 0, .n 30 29, .f 31 2 30, .l 32 1 31, .i 33 3 32 0, .c 34 g [.t 33], ⟨none, .bin 35 .add (.c (.sc (.string ⟨#[126]⟩))) (.t 34)⟩, .m 2 35]) .ret) (.seq (.r [.q 37 6 6, .m 36 37]) (.cond (.t 36) (.seq (.reg true [.m 38 0, .n 39 38, .f 40 2 39, .l 41 1 40, .i 42 3 41 0, .c 43 g [.t 42], ⟨none, .bin 44 .add (.c (.sc (.string ⟨#[40]⟩))) (.t 43)⟩, ⟨none, .bin 45 .add (.t 44) (.c (.sc (.string ⟨#[32, 43, 32]⟩)))⟩, .m 46 0, .n 47 46, .f 48 2 47, .l 49 1 48, .i 50 3 49 1, .c 51 g [.t 50], .o (.bin 52 .add (.t 45) (.t 51)), ⟨none, .bin 53 .add (.t 52) (.c (.sc (.string ⟨#[41]⟩)))⟩, .m 2 53]) .ret) (.seq (.r [.q 55 6 7, .m 54 55]) (.cond (.t 54) (.seq (.reg true [.m 56 0, .n 57 56, .f 58 2 57, .l 59 1 58, .i 60 3 59 0, .c 61 g [.t 60], ⟨none, .bin 62 .add (.c (.sc (.string ⟨#[40]⟩))) (.t 61)⟩, ⟨none, .bin 63 .add (.t 62) (.c (.sc (.string ⟨#[32]⟩)))⟩, .m 64 0, .n 65 64, .f 66 2 65, .l 67 1 66, .i 68 3 67 1, .c 69 g [.t 68], .o (.bin 70 .add (.t 63) (.t 69)), ⟨none, .bin 71 .add (.t 70) (.c (.sc (.string ⟨#[41]⟩)))⟩, .m 2 71]) .ret) .skip)))))))))))))))) (.seq (.r [.m 72 0, .n 73 72, .f 74 2 73, .l 75 1 74, .i 76 3 75 0, .c 77 g [.t 76], ⟨none, .bin 78 .add (.t 77) (.c (.sc (.string ⟨#[42]⟩)))⟩, .m 2 78]) .ret)))
def K_l01Text (P : Program) (fno : Nat) : Prop := ∀ (g0 : Int × Int) (hg : okG g0 = true) (e : Ex) (hT : treeE g0 e = true) (hz : (textE e).size ≤ 1000000000), AF P fno [.pt (eE e) 0] (.own (eT (textE e)))
theorem a_l01Text {P : Program} (hm : P.follows .mixedOrders = true) {g f1 : Nat} (hr : resF P g = some (79, k_l01Text g f1, [.t 2])) (hc1 : K_spDecimal P f1) : K_l01Text P g := by
 intro g0 hg e hT hz
 refine Ex.ind (p := fun e => treeE g0 e = true → (textE e).size ≤ 1000000000 → AF P g [.pt (eE e) 0] (.own (eT (textE e)))) (fun k v nn ks ih hT hz => ?_) e hT hz
 rw [treeE_mk, bA, List.all_eq_true] at hT
 have hK := tx_ok hg hT.1
 rw [textE_mk] at hz ⊢
 rw [eE_mk]
 refine af_of_res hr hm rfl fun hb => ?_
 cases hK with
 | zero hk hks =>
  subst hk hks
  rw [show textOp 1 v ([].map textE) = ⟨#[48]⟩ by simp [textOp]] at hz ⊢
  simp +contextual -implicitDefEqProofs only [k_l01Text, eT, D.size, D.sizeL, D.sub, bE, D.isAg, lN, List.getD_cons_zero, go_sem, ↓reduceIte, Nat.reduceEqDiff, Nat.reduceAdd, Nat.reduceLeDiff, Nat.reduceLT]
 | one hk hks =>
  subst hk hks
  rw [show textOp 2 v ([].map textE) = ⟨#[49]⟩ by simp [textOp]] at hz ⊢
  simp +contextual -implicitDefEqProofs only [k_l01Text, eT, D.size, D.sizeL, D.sub, Int.reduceBEq, bE, D.isAg, lN, List.getD_cons_zero, go_sem, ↓reduceIte, Nat.reduceEqDiff, Nat.reduceAdd, Nat.reduceLeDiff, Nat.reduceLT]
 | test hk hks n hv hn =>
  subst hk hks hv
  rw [show textOp 3 n ([].map textE) = ⟨#[116]⟩ ++ decB n by simp [textOp]] at hz ⊢
  have hdz := decB_size (n := n)
  simp +contextual -implicitDefEqProofs only [k_l01Text, eT, D.size, D.sizeL, D.sub, Int.reduceBEq, bE, D.isAg, lN, lC, List.getD_cons_zero, List.getD_cons_succ, go_sem, ↓reduceIte, Nat.reduceEqDiff, Nat.reduceAdd, Nat.reduceLeDiff, Nat.reduceLT]
  refine callQ_self (ds := [eI n]) (by rfl) (hc1 n hn) ?_
  simp +contextual -implicitDefEqProofs only [eT, go_sem, ↓reduceIte]
  simp only [List.size_toArray, lK, lZ]
  omega
 | act hk hks n hv hn =>
  subst hk hks hv
  rw [show textOp 4 n ([].map textE) = ⟨#[97]⟩ ++ decB n by simp [textOp]] at hz ⊢
  have hdz := decB_size (n := n)
  simp +contextual -implicitDefEqProofs only [k_l01Text, eT, D.size, D.sizeL, D.sub, Int.reduceBEq, bE, D.isAg, lN, lC, List.getD_cons_zero, List.getD_cons_succ, go_sem, ↓reduceIte, Nat.reduceEqDiff, Nat.reduceAdd, Nat.reduceLeDiff, Nat.reduceLT]
  refine callQ_self (ds := [eI n]) (by rfl) (hc1 n hn) ?_
  simp +contextual -implicitDefEqProofs only [eT, go_sem, ↓reduceIte]
  simp only [List.size_toArray, lK, lZ]
  omega
 | nt hk a hks =>
  subst hk hks
  rw [show textOp 5 v ([a].map textE) = ⟨#[126]⟩ ++ textE a by simp [textOp]] at hz ⊢
  have ta := hT.2 a (by simp)
  simp only [ByteArray.size_append, bsz, List.size_toArray, lK, lZ] at hz
  simp +contextual -implicitDefEqProofs only [k_l01Text, eT, D.size, D.sizeL, D.sub, Int.cast_ofNat_Int, Int.reduceLT, Int.le_refl, Int.reduceBEq, bE, D.isAg, lN, lC, lK, lZ, D.at, List.getD_cons_zero, List.getD_cons_succ, go_sem, ↓reduceIte, Nat.reduceEqDiff, Nat.reduceAdd, Nat.reduceLeDiff, Nat.reduceLT]
  refine callQ_self (ds := [.pt (eE a) 0]) (by rfl) (ih a (by simp) ta (by omega)) ?_
  simp +contextual -implicitDefEqProofs only [eT, go_sem, ↓reduceIte]
  simp only [List.size_toArray, lK, lZ]
  omega
 | sum hk a b hks =>
  subst hk hks
  rw [show textOp 6 v ([a, b].map textE) = ⟨#[40]⟩ ++ textE a ++ ⟨#[32, 43, 32]⟩ ++ textE b ++ ⟨#[41]⟩ by simp [textOp]] at hz ⊢
  have ta := hT.2 a (by simp)
  have tb := hT.2 b (by simp)
  simp only [ByteArray.size_append, bsz, List.size_toArray, lK, lZ] at hz
  simp +contextual -implicitDefEqProofs only [k_l01Text, eT, D.size, D.sizeL, D.sub, Int.cast_ofNat_Int, Int.reduceLT, Int.le_refl, Int.reduceBEq, bE, D.isAg, lN, lC, lK, lZ, D.at, List.getD_cons_zero, List.getD_cons_succ, go_sem, ↓reduceIte, Nat.reduceEqDiff, Nat.reduceAdd, Nat.reduceLeDiff, Nat.reduceLT]
  refine callQ_self (ds := [.pt (eE a) 0]) (by rfl) (ih a (by simp) ta (by omega)) ?_
  simp +contextual -implicitDefEqProofs only [eT, D.size, D.sizeL, D.sub, Int.cast_ofNat_Int, Int.reduceLT, Int.reduceLE, Int.reduceToNat, D.isAg, lN, lC, lK, lZ, D.at, List.getD_cons_zero, List.getD_cons_succ, go_sem, ↓reduceIte, Nat.reduceEqDiff, Nat.reduceAdd, Nat.reduceLeDiff, Nat.reduceLT]
  refine ⟨by simp only [List.size_toArray, lK, lZ]; omega, by simp only [List.size_toArray, lK, lZ]; omega, ?_⟩
  refine callQ_self (ds := [.pt (eE b) 0]) (by rfl) (ih b (by simp) tb (by omega)) ?_
  simp +contextual -implicitDefEqProofs only [eT, go_sem, ↓reduceIte, Nat.reduceEqDiff]
  exact ⟨by simp only [List.size_toArray, lK, lZ]; omega, by simp only [List.size_toArray, lK, lZ]; omega⟩
 | dot hk a b hks =>
  subst hk hks
  rw [show textOp 7 v ([a, b].map textE) = ⟨#[40]⟩ ++ textE a ++ ⟨#[32]⟩ ++ textE b ++ ⟨#[41]⟩ by simp [textOp]] at hz ⊢
  have ta := hT.2 a (by simp)
  have tb := hT.2 b (by simp)
  simp only [ByteArray.size_append, bsz, List.size_toArray, lK, lZ] at hz
  simp +contextual -implicitDefEqProofs only [k_l01Text, eT, D.size, D.sizeL, D.sub, Int.cast_ofNat_Int, Int.reduceLT, Int.le_refl, Int.reduceBEq, bE, D.isAg, lN, lC, lK, lZ, D.at, List.getD_cons_zero, List.getD_cons_succ, go_sem, ↓reduceIte, Nat.reduceEqDiff, Nat.reduceAdd, Nat.reduceLeDiff, Nat.reduceLT]
  refine callQ_self (ds := [.pt (eE a) 0]) (by rfl) (ih a (by simp) ta (by omega)) ?_
  simp +contextual -implicitDefEqProofs only [eT, D.size, D.sizeL, D.sub, Int.cast_ofNat_Int, Int.reduceLT, Int.reduceLE, Int.reduceToNat, D.isAg, lN, lC, lK, lZ, D.at, List.getD_cons_zero, List.getD_cons_succ, go_sem, ↓reduceIte, Nat.reduceEqDiff, Nat.reduceAdd, Nat.reduceLeDiff, Nat.reduceLT]
  refine ⟨by simp only [List.size_toArray, lK, lZ]; omega, by simp only [List.size_toArray, lK, lZ]; omega, ?_⟩
  refine callQ_self (ds := [.pt (eE b) 0]) (by rfl) (ih b (by simp) tb (by omega)) ?_
  simp +contextual -implicitDefEqProofs only [eT, go_sem, ↓reduceIte, Nat.reduceEqDiff]
  exact ⟨by simp only [List.size_toArray, lK, lZ]; omega, by simp only [List.size_toArray, lK, lZ]; omega⟩
 | star hk a hks =>
  subst hk hks
  rw [show textOp 8 v ([a].map textE) = textE a ++ ⟨#[42]⟩ by simp [textOp]] at hz ⊢
  have ta := hT.2 a (by simp)
  simp only [ByteArray.size_append, bsz, List.size_toArray, lK, lZ] at hz
  simp +contextual -implicitDefEqProofs only [k_l01Text, eT, D.size, D.sizeL, D.sub, Int.cast_ofNat_Int, Int.reduceLT, Int.le_refl, Int.reduceBEq, D.isAg, lN, lC, lK, lZ, D.at, List.getD_cons_zero, List.getD_cons_succ, go_sem, ↓reduceIte, Nat.reduceEqDiff, Nat.reduceAdd, Nat.reduceLeDiff, Nat.reduceLT]
  refine callQ_self (ds := [.pt (eE a) 0]) (by rfl) (ih a (by simp) ta (by omega)) ?_
  simp +contextual -implicitDefEqProofs only [eT, go_sem, ↓reduceIte]
  simp only [List.size_toArray, lK, lZ]
  omega

def K_wrS (P : Program) (fno : Nat) : Prop := ∀ s : ByteArray, s.size ≤ 1000000000 → AFB P fno 78 5 [.sc (.string s)] s

def K_bdS (P : Program) (fno : Nat) : Prop := AFS P fno 78 5

def k_writeExpr (g f1 f2 : Nat) : RC := (.seq (.r [.b 3 3 1]) (.seq (.r [.f 5 0 3, .l 6 1 5]) (.blk 0 (.seq (.r [.q 8 6 1, .m 7 8]) (.cond (.t 7) (.r [.m 9 0, ⟨none, .bwr (some 10) f2 (.t 9) [(.c (.sc (.string ⟨#[48]⟩)))]⟩]) (.seq (.r [.q 12 6 2, .m 11 12]) (.cond (.t 11) (.r [.m 13 0, ⟨none, .bwr (some 14) f2 (.t 13) [(.c (.sc (.string ⟨#[49]⟩)))]⟩]) (.seq (.r [.q 16 6 3, .m 15 16]) (.cond (.t 15) (.r [.m 17 0, .f 18 1 3, .l 19 1 18, .c 20 f1 [.t 19], ⟨none, .bin 21 .add (.c (.sc (.string ⟨#[116]⟩))) (.t 20)⟩, .o (.bwr (some 22) f2 (.t 17) [.t 21])]) (.seq (.r [.q 24 6 4, .m 23 24]) (.cond (.t 23) (.r [.m 25 0, .f 26 1 3, .l 27 1 26, .c 28 f1 [.t 27], ⟨none, .bin 29 .add (.c (.sc (.string ⟨#[97]⟩))) (.t 28)⟩, .o (.bwr (some 30) f2 (.t 25) [.t 29])]) (.seq (.r [.q 32 6 5, .m 31 32]) (.cond (.t 31) (.seq (.r [.m 33 0, ⟨none, .bwr (some 34) f2 (.t 33) [(.c (.sc (.string ⟨#[126]⟩)))]⟩]) (.r [.m 35 0, .f 36 2 3, .l 37 1 36, .i 38 3 37 0, .L 39 3 38, .o (.bwr (some 40) g (.t 35) [.t 39])])) (.seq (.r [.q 42 6 8, .m 41 42]) (.cond (.t 41) (.seq (.r [.m 43 0, .f 44 2 3, .l 45 1 44, .i 46 3 45 0, .L 47 3 46, .o (.bwr (some 48) g (.t 43) [.t 47])]) (.r [.m 49 0, ⟨none, .bwr (some 50) f2 (.t 49) [(.c (.sc (.string ⟨#[42]⟩)))]⟩])) (.seq (.seq (.r [.q 52 6 6, .m 51 52]) (.cond (.t 51) .skip (.r [.q 53 6 7, .m 51 53]))) (.cond (.t 51) (.seq (.r [⟨none, .mv 4 (.c (.sc (.string ⟨#[32]⟩)))⟩]) (.seq (.seq (.r [.f 54 0 3, .l 55 1 54, .q 56 55 6]) (.cond (.t 56) (.r [⟨none, .mv 4 (.c (.sc (.string ⟨#[32, 43, 32]⟩)))⟩]) .skip)) (.seq (.r [.m 57 0, ⟨none, .bwr (some 58) f2 (.t 57) [(.c (.sc (.string ⟨#[40]⟩)))]⟩]) (.seq (.r [.m 59 0, .f 60 2 3, .l 61 1 60, .i 62 3 61 0, .L 63 3 62, .o (.bwr (some 64) g (.t 59) [.t 63])]) (.seq (.r [.m 65 0, .m 66 4, .o (.bwr (some 67) f2 (.t 65) [.t 66])]) (.seq (.r [.m 68 0, .f 69 2 3, .l 70 1 69, .i 71 3 70 1, .L 72 3 71, .o (.bwr (some 73) g (.t 68) [.t 72])]) (.r [.m 74 0, ⟨none, .bwr (some 75) f2 (.t 74) [(.c (.sc (.string ⟨#[41]⟩)))]⟩]))))))) .skip)))))))))))))))))
def K_writeExpr (P : Program) (fno : Nat) : Prop := ∀ (g0 : Int × Int) (hg : okG g0 = true) (e : Ex) (hT : treeE g0 e = true) (hz : (textE e).size ≤ 1000000000), AFB P fno 78 5 [eE e] (textE e)
theorem a_writeExpr {P : Program} (hm : P.follows .mixedOrders = true) {g f1 f2 : Nat} (hr : resF P g = some (76, k_writeExpr g f1 f2, [])) (hc1 : K_imDecimal P f1) (hc2 : K_wrS P f2) : K_writeExpr P g := by
 intro g0 hg e hT hz
 refine Ex.ind (p := fun e => treeE g0 e = true → (textE e).size ≤ 1000000000 → AFB P g 78 5 [eE e] (textE e)) (fun k v nn ks ih hT hz => ?_) e hT hz
 rw [treeE_mk, bA, List.all_eq_true] at hT
 have hK := tx_ok hg hT.1
 rw [textE_mk] at hz ⊢
 rw [eE_mk]
 refine afb_of_res (wv := .no) hr hm (by rfl) (by omega) fun hb s hs => ?_
 cases hK with
 | zero hk hks =>
  subst hk hks
  rw [show textOp 1 v ([].map textE) = ⟨#[48]⟩ by simp [textOp]] at hz hs ⊢
  simp only [bsz, List.size_toArray, lK, lZ] at hz hs
  simp +contextual -implicitDefEqProofs only [k_writeExpr, stW, D.size, D.sizeL, bE, lN, lC, D.at, List.getD_cons_zero, sub_agf, isAg_ag, go_sem, ↓reduceIte, Nat.reduceEqDiff, Nat.reduceAdd, Nat.reduceLeDiff, Nat.reduceBneDiff, Nat.reduceLT]
  refine bwr_self (T := 78) (E := 5) (t := ⟨#[48]⟩) [.sc (.string ⟨#[48]⟩)] (by rfl) (by rfl) (by rfl) (hc2 ⟨#[48]⟩ (by decide)) (by first | (simp only [bsz, List.size_toArray, lK, lZ]; omega) | omega) ?_
  simp +contextual -implicitDefEqProofs only [go_sem, ↓reduceIte, Nat.reduceEqDiff]
  exact ⟨rfl, rfl, rfl⟩
 | one hk hks =>
  subst hk hks
  rw [show textOp 2 v ([].map textE) = ⟨#[49]⟩ by simp [textOp]] at hz hs ⊢
  simp only [bsz, List.size_toArray, lK, lZ] at hz hs
  simp +contextual -implicitDefEqProofs only [k_writeExpr, stW, D.size, D.sizeL, Int.reduceBEq, bE, lN, lC, D.at, List.getD_cons_zero, sub_agf, isAg_ag, go_sem, ↓reduceIte, Nat.reduceEqDiff, Nat.reduceAdd, Nat.reduceLeDiff, Nat.reduceBneDiff, Nat.reduceLT]
  refine bwr_self (T := 78) (E := 5) (t := ⟨#[49]⟩) [.sc (.string ⟨#[49]⟩)] (by rfl) (by rfl) (by rfl) (hc2 ⟨#[49]⟩ (by decide)) (by first | (simp only [bsz, List.size_toArray, lK, lZ]; omega) | omega) ?_
  simp +contextual -implicitDefEqProofs only [go_sem, ↓reduceIte, Nat.reduceEqDiff]
  exact ⟨rfl, rfl, rfl⟩
 | test hk hks n hv hn =>
  subst hk hks hv
  rw [show textOp 3 n ([].map textE) = ⟨#[116]⟩ ++ decB n by simp [textOp]] at hz hs ⊢
  simp only [ByteArray.size_append, bsz, List.size_toArray, lK, lZ] at hz hs
  have hdz := decB_size (n := n)
  simp +contextual -implicitDefEqProofs only [k_writeExpr, stW, D.size, D.sizeL, Int.reduceBEq, bE, lN, lC, D.at, List.getD_cons_zero, List.getD_cons_succ, sub_agf, isAg_ag, go_sem, ↓reduceIte, Nat.reduceEqDiff, Nat.reduceAdd, Nat.reduceLeDiff, Nat.reduceBneDiff, Nat.reduceLT]
  refine callQ_self (ds := [eI n]) (by rfl) (hc1 n hn) ?_
  simp +contextual -implicitDefEqProofs only [eT, lN, lC, go_sem, ↓reduceIte, Nat.reduceEqDiff]
  refine ⟨by simp only [List.size_toArray, lK, lZ]; omega, ?_⟩
  refine bwr_self (T := 78) (E := 5) (t := ⟨#[116]⟩ ++ decB n) [.sc (.string (⟨#[116]⟩ ++ decB n))] (by rfl) (by rfl) (by rfl) (hc2 (⟨#[116]⟩ ++ decB n) (by simp only [ByteArray.size_append, bsz, List.size_toArray, lK, lZ]; omega)) (by first | (simp only [ByteArray.size_append, bsz, List.size_toArray, lK, lZ]; omega) | omega) ?_
  simp +contextual -implicitDefEqProofs only [go_sem, ↓reduceIte, Nat.reduceEqDiff]
  exact ⟨rfl, rfl, rfl⟩
 | act hk hks n hv hn =>
  subst hk hks hv
  rw [show textOp 4 n ([].map textE) = ⟨#[97]⟩ ++ decB n by simp [textOp]] at hz hs ⊢
  simp only [ByteArray.size_append, bsz, List.size_toArray, lK, lZ] at hz hs
  have hdz := decB_size (n := n)
  simp +contextual -implicitDefEqProofs only [k_writeExpr, stW, D.size, D.sizeL, Int.reduceBEq, bE, lN, lC, D.at, List.getD_cons_zero, List.getD_cons_succ, sub_agf, isAg_ag, go_sem, ↓reduceIte, Nat.reduceEqDiff, Nat.reduceAdd, Nat.reduceLeDiff, Nat.reduceBneDiff, Nat.reduceLT]
  refine callQ_self (ds := [eI n]) (by rfl) (hc1 n hn) ?_
  simp +contextual -implicitDefEqProofs only [eT, lN, lC, go_sem, ↓reduceIte, Nat.reduceEqDiff]
  refine ⟨by simp only [List.size_toArray, lK, lZ]; omega, ?_⟩
  refine bwr_self (T := 78) (E := 5) (t := ⟨#[97]⟩ ++ decB n) [.sc (.string (⟨#[97]⟩ ++ decB n))] (by rfl) (by rfl) (by rfl) (hc2 (⟨#[97]⟩ ++ decB n) (by simp only [ByteArray.size_append, bsz, List.size_toArray, lK, lZ]; omega)) (by first | (simp only [ByteArray.size_append, bsz, List.size_toArray, lK, lZ]; omega) | omega) ?_
  simp +contextual -implicitDefEqProofs only [go_sem, ↓reduceIte, Nat.reduceEqDiff]
  exact ⟨rfl, rfl, rfl⟩
 | nt hk a hks =>
  subst hk hks
  rw [show textOp 5 v ([a].map textE) = ⟨#[126]⟩ ++ textE a by simp [textOp]] at hz hs ⊢
  simp only [ByteArray.size_append, bsz, List.size_toArray, lK, lZ] at hz hs
  have ta := hT.2 a (by simp)
  simp +contextual -implicitDefEqProofs only [k_writeExpr, stW, D.size, D.sizeL, Int.reduceBEq, bE, lN, lC, D.at, List.getD_cons_zero, sub_agf, isAg_ag, go_sem, ↓reduceIte, Nat.reduceEqDiff, Nat.reduceAdd, Nat.reduceLeDiff, Nat.reduceBneDiff, Nat.reduceLT]
  refine bwr_self (T := 78) (E := 5) (t := ⟨#[126]⟩) [.sc (.string ⟨#[126]⟩)] (by rfl) (by rfl) (by rfl) (hc2 ⟨#[126]⟩ (by decide)) (by first | (simp only [bsz, List.size_toArray, lK, lZ]; omega) | omega) ?_
  simp +contextual -implicitDefEqProofs only [Int.cast_ofNat_Int, Int.reduceLT, Int.le_refl, lN, lC, lK, lZ, D.at, List.getD_cons_zero, List.getD_cons_succ, encE.sub, eE_size, eE_isAg, sub_agf, isAg_ag, go_sem, ↓reduceIte, Nat.reduceEqDiff, Nat.reduceAdd, Nat.reduceLeDiff, Nat.reduceLT]
  refine bwr_self (T := 78) (E := 5) (t := textE a) [eE a] (by rfl) (by rfl) (by rfl) (ih a (by simp) ta (by omega)) (by first | (simp only [ByteArray.size_append, bsz, List.size_toArray, lK, lZ]; omega) | omega) ?_
  simp +contextual -implicitDefEqProofs only [go_sem, ↓reduceIte, Nat.reduceEqDiff]
  exact ⟨rfl, rfl, by simp only [ByteArray.append_assoc]⟩
 | sum hk a b hks =>
  subst hk hks
  rw [show textOp 6 v ([a, b].map textE) = ⟨#[40]⟩ ++ textE a ++ ⟨#[32, 43, 32]⟩ ++ textE b ++ ⟨#[41]⟩ by simp [textOp]] at hz hs ⊢
  simp only [ByteArray.size_append, bsz, List.size_toArray, lK, lZ] at hz hs
  have ta := hT.2 a (by simp)
  have tb := hT.2 b (by simp)
  simp +contextual -implicitDefEqProofs only [k_writeExpr, stW, D.size, D.sizeL, Int.reduceBEq, bE, lN, lC, D.at, List.getD_cons_zero, sub_agf, isAg_ag, go_sem, ↓reduceIte, Nat.reduceEqDiff, Nat.reduceAdd, Nat.reduceLeDiff, Nat.reduceBneDiff, Nat.reduceLT]
  refine bwr_self (T := 78) (E := 5) (t := ⟨#[40]⟩) [.sc (.string ⟨#[40]⟩)] (by rfl) (by rfl) (by rfl) (hc2 ⟨#[40]⟩ (by decide)) (by first | (simp only [bsz, List.size_toArray, lK, lZ]; omega) | omega) ?_
  simp +contextual -implicitDefEqProofs only [Int.cast_ofNat_Int, Int.reduceLT, Int.le_refl, lN, lC, lK, lZ, D.at, List.getD_cons_zero, List.getD_cons_succ, encE.sub, eE_size, eE_isAg, sub_agf, isAg_ag, go_sem, ↓reduceIte, Nat.reduceEqDiff, Nat.reduceAdd, Nat.reduceLeDiff, Nat.reduceLT]
  refine bwr_self (T := 78) (E := 5) (t := textE a) [eE a] (by rfl) (by rfl) (by rfl) (ih a (by simp) ta (by omega)) (by first | (simp only [ByteArray.size_append, bsz, List.size_toArray, lK, lZ]; omega) | omega) ?_
  simp +contextual -implicitDefEqProofs only [lN, lC, go_sem, ↓reduceIte, Nat.reduceEqDiff]
  refine bwr_self (T := 78) (E := 5) (t := ⟨#[32, 43, 32]⟩) [.sc (.string ⟨#[32, 43, 32]⟩)] (by rfl) (by rfl) (by rfl) (hc2 ⟨#[32, 43, 32]⟩ (by decide)) (by first | (simp only [ByteArray.size_append, bsz, List.size_toArray, lK, lZ]; omega) | omega) ?_
  simp +contextual -implicitDefEqProofs only [Int.cast_ofNat_Int, Int.reduceLT, Int.reduceLE, Int.reduceToNat, lN, lC, lK, lZ, D.at, List.getD_cons_zero, List.getD_cons_succ, encE.sub, eE_size, eE_isAg, sub_agf, isAg_ag, go_sem, ↓reduceIte, Nat.reduceEqDiff, Nat.reduceAdd, Nat.reduceLeDiff, Nat.reduceLT]
  refine bwr_self (T := 78) (E := 5) (t := textE b) [eE b] (by rfl) (by rfl) (by rfl) (ih b (by simp) tb (by omega)) (by first | (simp only [ByteArray.size_append, bsz, List.size_toArray, lK, lZ]; omega) | omega) ?_
  simp +contextual -implicitDefEqProofs only [lN, lC, go_sem, ↓reduceIte, Nat.reduceEqDiff]
  refine bwr_self (T := 78) (E := 5) (t := ⟨#[41]⟩) [.sc (.string ⟨#[41]⟩)] (by rfl) (by rfl) (by rfl) (hc2 ⟨#[41]⟩ (by decide)) (by first | (simp only [ByteArray.size_append, bsz, List.size_toArray, lK, lZ]; omega) | omega) ?_
  simp +contextual -implicitDefEqProofs only [go_sem, ↓reduceIte, Nat.reduceEqDiff]
  exact ⟨rfl, rfl, by simp only [ByteArray.append_assoc]⟩
 | dot hk a b hks =>
  subst hk hks
  rw [show textOp 7 v ([a, b].map textE) = ⟨#[40]⟩ ++ textE a ++ ⟨#[32]⟩ ++ textE b ++ ⟨#[41]⟩ by simp [textOp]] at hz hs ⊢
  simp only [ByteArray.size_append, bsz, List.size_toArray, lK, lZ] at hz hs
  have ta := hT.2 a (by simp)
  have tb := hT.2 b (by simp)
  simp +contextual -implicitDefEqProofs only [k_writeExpr, stW, D.size, D.sizeL, Int.reduceBEq, bE, lN, lC, D.at, List.getD_cons_zero, sub_agf, isAg_ag, go_sem, ↓reduceIte, Nat.reduceEqDiff, Nat.reduceAdd, Nat.reduceLeDiff, Nat.reduceBneDiff, Nat.reduceLT]
  refine bwr_self (T := 78) (E := 5) (t := ⟨#[40]⟩) [.sc (.string ⟨#[40]⟩)] (by rfl) (by rfl) (by rfl) (hc2 ⟨#[40]⟩ (by decide)) (by first | (simp only [bsz, List.size_toArray, lK, lZ]; omega) | omega) ?_
  simp +contextual -implicitDefEqProofs only [Int.cast_ofNat_Int, Int.reduceLT, Int.le_refl, lN, lC, lK, lZ, D.at, List.getD_cons_zero, List.getD_cons_succ, encE.sub, eE_size, eE_isAg, sub_agf, isAg_ag, go_sem, ↓reduceIte, Nat.reduceEqDiff, Nat.reduceAdd, Nat.reduceLeDiff, Nat.reduceLT]
  refine bwr_self (T := 78) (E := 5) (t := textE a) [eE a] (by rfl) (by rfl) (by rfl) (ih a (by simp) ta (by omega)) (by first | (simp only [ByteArray.size_append, bsz, List.size_toArray, lK, lZ]; omega) | omega) ?_
  simp +contextual -implicitDefEqProofs only [lN, lC, go_sem, ↓reduceIte, Nat.reduceEqDiff]
  refine bwr_self (T := 78) (E := 5) (t := ⟨#[32]⟩) [.sc (.string ⟨#[32]⟩)] (by rfl) (by rfl) (by rfl) (hc2 ⟨#[32]⟩ (by decide)) (by first | (simp only [ByteArray.size_append, bsz, List.size_toArray, lK, lZ]; omega) | omega) ?_
  simp +contextual -implicitDefEqProofs only [Int.cast_ofNat_Int, Int.reduceLT, Int.reduceLE, Int.reduceToNat, lN, lC, lK, lZ, D.at, List.getD_cons_zero, List.getD_cons_succ, encE.sub, eE_size, eE_isAg, sub_agf, isAg_ag, go_sem, ↓reduceIte, Nat.reduceEqDiff, Nat.reduceAdd, Nat.reduceLeDiff, Nat.reduceLT]
  refine bwr_self (T := 78) (E := 5) (t := textE b) [eE b] (by rfl) (by rfl) (by rfl) (ih b (by simp) tb (by omega)) (by first | (simp only [ByteArray.size_append, bsz, List.size_toArray, lK, lZ]; omega) | omega) ?_
  simp +contextual -implicitDefEqProofs only [lN, lC, go_sem, ↓reduceIte, Nat.reduceEqDiff]
  refine bwr_self (T := 78) (E := 5) (t := ⟨#[41]⟩) [.sc (.string ⟨#[41]⟩)] (by rfl) (by rfl) (by rfl) (hc2 ⟨#[41]⟩ (by decide)) (by first | (simp only [ByteArray.size_append, bsz, List.size_toArray, lK, lZ]; omega) | omega) ?_
  simp +contextual -implicitDefEqProofs only [go_sem, ↓reduceIte, Nat.reduceEqDiff]
  exact ⟨rfl, rfl, by simp only [ByteArray.append_assoc]⟩
 | star hk a hks =>
  subst hk hks
  rw [show textOp 8 v ([a].map textE) = textE a ++ ⟨#[42]⟩ by simp [textOp]] at hz hs ⊢
  simp only [ByteArray.size_append, bsz, List.size_toArray, lK, lZ] at hz hs
  have ta := hT.2 a (by simp)
  simp +contextual -implicitDefEqProofs only [k_writeExpr, stW, D.size, D.sizeL, Int.cast_ofNat_Int, Int.reduceLT, Int.le_refl, Int.reduceBEq, bE, lN, lC, lK, lZ, D.at, List.getD_cons_zero, List.getD_cons_succ, encE.sub, eE_size, eE_isAg, sub_agf, isAg_ag, go_sem, ↓reduceIte, Nat.reduceEqDiff, Nat.reduceAdd, Nat.reduceLeDiff, Nat.reduceBneDiff, Nat.reduceLT]
  refine bwr_self (T := 78) (E := 5) (t := textE a) [eE a] (by rfl) (by rfl) (by rfl) (ih a (by simp) ta (by omega)) (by first | (simp only [ByteArray.size_append, bsz, List.size_toArray, lK, lZ]; omega) | omega) ?_
  simp +contextual -implicitDefEqProofs only [lN, lC, go_sem, ↓reduceIte, Nat.reduceEqDiff]
  refine bwr_self (T := 78) (E := 5) (t := ⟨#[42]⟩) [.sc (.string ⟨#[42]⟩)] (by rfl) (by rfl) (by rfl) (hc2 ⟨#[42]⟩ (by decide)) (by first | (simp only [ByteArray.size_append, bsz, List.size_toArray, lK, lZ]; omega) | omega) ?_
  simp +contextual -implicitDefEqProofs only [go_sem, ↓reduceIte, Nat.reduceEqDiff]
  exact ⟨rfl, rfl, by simp only [ByteArray.append_assoc]⟩

def k_textOf (f1 f2 : Nat) : RC := (.seq (.r [.b 1 3 0, ⟨none, .mv 2 (.c (.sc (.string ⟨#[]⟩)))⟩]) (.seq (.r [.o (.bld 4 (.ag [(.sc (.pointer none)), (.ls (some true) 1 [])]) []), .o (.zsb 3 78 5), .s 2 3 4]) (.seq (.r [.L 5 3 1, .o (.bwr (some 6) f1 (.t 3) [.t 5])]) (.seq (.r [.o (.bst 7 f2 (.t 3)), .m 2 7]) .ret))))
def K_textOf (P : Program) (fno : Nat) : Prop := ∀ (g0 : Int × Int) (hg : okG g0 = true) (e : Ex) (hT : treeE g0 e = true) (hz : (textE e).size ≤ 1000000000), AF P fno [eE e] (.own (eT (textE e)))
theorem a_textOf {P : Program} (hm : P.follows .mixedOrders = true) {g f1 f2 : Nat} (hr : resF P g = some (8, k_textOf f1 f2, [.t 2])) (hc1 : K_writeExpr P f1) (hc2 : K_bdS P f2) : K_textOf P g := by
 intro g0 hg e hT hz
 refine af_of_res hr hm rfl fun hb => ?_
 simp +contextual -implicitDefEqProofs only [k_textOf, eT, bE, lN, lC, lK, lZ, D.at, List.getD_cons_zero, encE.sub, eE_size, eE_isAg, List.drop_zero, go_sem, ↓reduceIte, Nat.reduceEqDiff, Nat.reduceAdd, Nat.reduceLeDiff, Nat.reduceBEq, Nat.reduceBneDiff, Nat.reduceLT]
 refine bwr_self (T := 78) (E := 5) (t := textE e) [eE e] (by rfl) (by rfl) (by rfl) (hc1 g0 hg e hT hz) (by simp only [bsz, List.size_toArray, lZ]; omega) ?_
 simp +contextual -implicitDefEqProofs only [go_sem, ↓reduceIte, Nat.reduceEqDiff, Nat.reduceBEq]
 refine bst_self (T := 78) (E := 5) (by rfl) hc2 ?_
 simp +contextual -implicitDefEqProofs only [bE, e_app, go_sem, ↓reduceIte, Nat.reduceEqDiff, Nat.reduceBEq]
theorem textE_size {g : Int × Int} (hg : okG g = true) : ∀ e : Ex, treeE g e = true → (textE e).size ≤ 5 * sizeE e :=
 Ex.ind fun k v nn ks ih hT => by
  rw [treeE_mk, bA, List.all_eq_true] at hT
  rw [textE_mk, sizeE_mk]
  have hK := tx_ok hg hT.1
  cases hK with
  | zero h hk => subst h hk; simp [textOp, sizeEs, bsz]
  | one h hk => subst h hk; simp [textOp, sizeEs, bsz]
  | test h hk n hv hn =>
   subst h hk hv
   have := decB_size (n := n)
   simp [textOp, sizeEs, bsz]; omega
  | act h hk n hv hn =>
   subst h hk hv
   have := decB_size (n := n)
   simp [textOp, sizeEs, bsz]; omega
  | nt h a hk =>
   subst h hk
   have := ih a (by simp) (hT.2 a (by simp))
   simp [textOp, sizeEs, bsz]; omega
  | sum h a b hk =>
   subst h hk
   have h1 := ih a (by simp) (hT.2 a (by simp))
   have h2 := ih b (by simp) (hT.2 b (by simp))
   simp [textOp, sizeEs, bsz]; omega
  | dot h a b hk =>
   subst h hk
   have h1 := ih a (by simp) (hT.2 a (by simp))
   have h2 := ih b (by simp) (hT.2 b (by simp))
   simp [textOp, sizeEs, bsz]; omega
  | star h a hk =>
   subst h hk
   have := ih a (by simp) (hT.2 a (by simp))
   simp [textOp, sizeEs, bsz]; omega
theorem okE_tree {g : Int × Int} {e : Ex} (h : okE g e = true) : treeE g e = true := by
 simp only [okE, bA] at h
 exact h.2.2
theorem okE_size {g : Int × Int} {e : Ex} (hg : okG g = true) (h : okE g e = true) : (textE e).size ≤ 1000 := by
 have ht := textE_size hg e (okE_tree h)
 simp only [okE, bA, decide_eq_true_eq] at h
 omega

def lineT (q : Eq2) : ByteArray := textE q.1 ++ ⟨#[32, 61, 32]⟩ ++ textE q.2
def k_l04Line (f1 : Nat) : RC := (.seq (.r [⟨none, .mv 2 (.c (.sc (.string ⟨#[]⟩)))⟩]) (.seq (.reg true [.m 3 0, .n 4 3, .f 5 0 4, .c 6 f1 [.t 5], ⟨none, .bin 7 .add (.t 6) (.c (.sc (.string ⟨#[32, 61, 32]⟩)))⟩, .m 8 0, .n 9 8, .f 10 3 9, .c 11 f1 [.t 10], .o (.bin 12 .add (.t 7) (.t 11)), .m 2 12]) .ret))
def K_l04Line (P : Program) (fno : Nat) : Prop := ∀ (g0 : Int × Int) (hg : okG g0 = true) (q : Eq2) (h1 : treeE g0 q.1 = true) (h2 : treeE g0 q.2 = true) (z1 : (textE q.1).size ≤ 1000000) (z2 : (textE q.2).size ≤ 1000000), AF P fno [.pt (eQ q) 0] (.own (eT (lineT q)))
theorem a_l04Line {P : Program} (hm : P.follows .mixedOrders = true) {g f1 : Nat} (hr : resF P g = some (13, k_l04Line f1, [.t 2])) (hc1 : K_l01Text P f1) : K_l04Line P g := by
 intro g0 hg q h1 h2 z1 z2
 refine af_of_res hr hm rfl fun hb => ?_
 simp +contextual -implicitDefEqProofs only [k_l04Line, eQ, eI, D.put, D.cells, D.size, D.sizeL, D.isAg, modeOf, noPtrs, lM, go_sem, eB, ↓reduceIte, Nat.reduceEqDiff, Nat.reduceAdd, Nat.reduceLeDiff, Nat.reduceMul, Nat.reduceBEq, Nat.reduceBneDiff, Nat.reduceLT, Nat.reduceSub, iL, iN]
 refine callQ_le (es := [.pt (eE q.1) 0]) rfl ⟨D.LeA.sub (sz := 3) (by simp [D.size, D.sizeL]) rfl (by omega) (by rw [eE_eta]; rfl), trivial⟩ (hc1 g0 hg q.1 h1 (by omega)) ?_
 simp +contextual -implicitDefEqProofs only [eT, D.put, D.cells, D.size, D.sizeL, D.isAg, modeOf, noPtrs, lM, go_sem, eI, eB, ↓reduceIte, Nat.reduceEqDiff, Nat.reduceAdd, Nat.reduceLeDiff, Nat.reduceMul, Nat.reduceBEq, Nat.reduceBneDiff, Nat.reduceLT, Nat.reduceSub, iL, iN]
 refine ⟨by simp only [ByteArray.size_append, bsz, List.size_toArray, lK, lZ]; omega, ?_⟩
 refine callQ_le (es := [.pt (eE q.2) 0]) rfl ⟨D.LeA.sub (sz := 3) (by simp [D.size, D.sizeL]) rfl (by omega) (by rw [eE_eta]; rfl), trivial⟩ (hc1 g0 hg q.2 h2 (by omega)) ?_
 simp +contextual -implicitDefEqProofs only [eT, D.put, D.cells, D.size, D.sizeL, D.isAg, modeOf, noPtrs, lM, go_sem, eI, eB, ↓reduceIte, Nat.reduceEqDiff, Nat.reduceAdd, Nat.reduceLeDiff, Nat.reduceMul, Nat.reduceBEq, Nat.reduceBneDiff, Nat.reduceLT, Nat.reduceSub, iL, iN]
 exact ⟨by simp only [ByteArray.size_append, bsz, List.size_toArray, lK, lZ]; omega, D.Le.sc_eq rfl⟩

def k_equationText (f1 : Nat) : RC := (.seq (.r [.b 1 6 0, ⟨none, .mv 2 (.c (.sc (.string ⟨#[]⟩)))⟩]) (.seq (.reg true [.f 3 0 1, .L 4 3 3, .c 5 f1 [.t 4], ⟨none, .bin 6 .add (.t 5) (.c (.sc (.string ⟨#[32, 61, 32]⟩)))⟩, .f 7 3 1, .L 8 3 7, .c 9 f1 [.t 8], .o (.bin 10 .add (.t 6) (.t 9)), .m 2 10]) .ret))
def K_equationText (P : Program) (fno : Nat) : Prop := ∀ (g0 : Int × Int) (hg : okG g0 = true) (q : Eq2) (h1 : treeE g0 q.1 = true) (h2 : treeE g0 q.2 = true) (z1 : (textE q.1).size ≤ 1000000) (z2 : (textE q.2).size ≤ 1000000), AF P fno [eQ q] (.own (eT (lineT q)))
theorem a_equationText {P : Program} (hm : P.follows .mixedOrders = true) {g f1 : Nat} (hr : resF P g = some (11, k_equationText f1, [.t 2])) (hc1 : K_textOf P f1) : K_equationText P g := by
 intro g0 hg q h1 h2 z1 z2
 refine af_of_res hr hm rfl fun hb => ?_
 simp +contextual -implicitDefEqProofs only [k_equationText, eQ, eI, D.at, D.sub, List.drop_zero, List.take_succ_cons, List.take_zero, List.drop_succ_cons, D.put, D.cells, D.size, D.sizeL, D.isAg, modeOf, noPtrs, lM, go_sem, eB, ↓reduceIte, Nat.reduceEqDiff, Nat.reduceAdd, Nat.reduceLeDiff, Nat.reduceMul, Nat.reduceBEq, Nat.reduceBneDiff, Nat.reduceLT, Nat.reduceSub, iL, iN]
 refine callQ_self (ds := [eE q.1]) (by rw [eE_eta]; rfl) (hc1 g0 hg q.1 h1 (by omega)) ?_
 simp +contextual -implicitDefEqProofs only [eT, eQ, eI, D.at, D.sub, List.drop_zero, List.take_succ_cons, List.take_zero, List.drop_succ_cons, D.put, D.cells, D.size, D.sizeL, D.isAg, modeOf, noPtrs, lM, go_sem, eB, ↓reduceIte, Nat.reduceEqDiff, Nat.reduceAdd, Nat.reduceLeDiff, Nat.reduceMul, Nat.reduceBEq, Nat.reduceBneDiff, Nat.reduceLT, Nat.reduceSub, iL, iN]
 refine ⟨by simp only [ByteArray.size_append, bsz, List.size_toArray, lK, lZ]; omega, ?_⟩
 refine callQ_self (ds := [eE q.2]) (by rw [eE_eta]; rfl) (hc1 g0 hg q.2 h2 (by omega)) ?_
 simp +contextual -implicitDefEqProofs only [eT, D.put, D.cells, D.size, D.sizeL, D.isAg, modeOf, noPtrs, lM, go_sem, eI, eB, ↓reduceIte, Nat.reduceEqDiff, Nat.reduceAdd, Nat.reduceLeDiff, Nat.reduceMul, Nat.reduceBEq, Nat.reduceBneDiff, Nat.reduceLT, Nat.reduceSub, iL, iN]
 exact ⟨by simp only [ByteArray.size_append, bsz, List.size_toArray, lK, lZ]; omega, D.Le.sc_eq rfl⟩

def Pg.k : Pg → Int | .mk k _ _ _ _ => k
def Pg.n : Pg → Int | .mk _ n _ _ _ => n
def Pg.c : Pg → Ex | .mk _ _ c _ _ => c
def Pg.nn : Pg → Option Bool | .mk _ _ _ nn _ => nn
def Pg.ks : Pg → List Pg | .mk _ _ _ _ ks => ks
section
variable {P : Program} (hm : P.follows .mixedOrders = true)
include hm
end

end Go.Ax
namespace Go.Ax
set_option maxRecDepth 20000
set_option maxHeartbeats 4000000
abbrev Stp := Int × Bool × SL Int × SL Ex × SL Ex
def eSt (p : Stp) : D := .ag [eI p.1, eB p.2.1, .ls p.2.2.1.1 1 (p.2.2.1.2.map eI), .ls p.2.2.2.1.1 3 (p.2.2.2.1.2.map eE), .ls p.2.2.2.2.1 3 (p.2.2.2.2.2.map eE)]
theorem encSt : Enc eSt 5 true := ⟨by omega, fun _ => rfl, fun _ => rfl, fun _ => rfl⟩
abbrev Cl := Ex × Ex × Int × Int × SL Stp
def eCl (c : Cl) : D := .ag [.sc (.int .i64 c.1.k), .sc (.int .i64 c.1.n), .ls c.1.nn 3 (c.1.ks.map eE), .sc (.int .i64 c.2.1.k), .sc (.int .i64 c.2.1.n), .ls c.2.1.nn 3 (c.2.1.ks.map eE), eI c.2.2.1, eI c.2.2.2.1, .ls c.2.2.2.2.1 5 (c.2.2.2.2.2.map eSt)]
theorem encCl : Enc eCl 9 true := ⟨by omega, fun _ => rfl, fun _ => rfl, fun _ => rfl⟩
abbrev Pf := (Int × Int) × SL Cl
def ePf (p : Pf) : D := .ag [eI p.1.1, eI p.1.2, .ls p.2.1 9 (p.2.2.map eCl)]
theorem eSt_size (p : Stp) : (eSt p).size = 5 := rfl
theorem eCl_size (p : Cl) : (eCl p).size = 9 := rfl

end Go.Ax
