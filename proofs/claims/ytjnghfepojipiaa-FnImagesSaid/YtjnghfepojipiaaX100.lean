/- Contracts of functions of the seat, proved over the engine. No condition. -/
import Derived.Test.YtjnghfepojipiaaX10
import Derived.Test.YtjnghfepojipiaaAxSB
set_option linter.unusedSimpArgs false
set_option linter.unusedVariables false
set_option linter.unnecessarySimpa false
namespace Go.Ax
set_option linter.unusedSimpArgs false
set_option maxRecDepth 20000
set_option maxHeartbeats 4000000

def eU (v : Int) : D := .sc (.int .u8 v)

def srcD (nn : Option Bool) (c : List Int) (a sd : Int) : D := .ag [.ls nn 1 (c.map eU), .sc (.int .i64 a), .sc (.int .u64 sd)]
def uS (nn : Option Bool) (c : List Int) (a sd : Int) : U := .ar false none 3 [srcD nn c a sd]
def srcOk (c : List Int) : Prop := (∀ v ∈ c, 0 ≤ v ∧ v < 256) ∧ c.length ≤ 1000000000
def nb (c : List Int) (a : Int) : Int := if a < c.length then c.getD a.toNat 0 else 0
def nsd (c : List Int) (a sd : Int) : Int := IntKind.u64.wrap (IntKind.u64.wrap (IntKind.u64.wrap (sd * 6364136223846793005) + IntKind.u64.wrap (nb c a)) + 1442695040888963407)
def nlow (sd : Int) : Int := IntKind.i64.wrap (IntKind.u64.wrap ((BitVec.ofInt IntKind.u64.bits (sd.fdiv (2 ^ (min (40 : Int).toNat IntKind.u64.bits))) &&& BitVec.ofInt IntKind.u64.bits 255).toNat : Nat))
def nxS (c : List Int) (a sd : Int) : Int := if a < c.length then nb c a else nlow (nsd c a sd)
theorem nb_bd {c : List Int} {a : Int} (h : srcOk c) : 0 ≤ nb c a ∧ nb c a < 256 := by
 unfold nb
 split
 ·next h1 =>
  by_cases h2 : a.toNat < c.length
  ·rw [List.getD_eq_getElem?_getD, List.getElem?_eq_getElem h2]
   exact h.1 _ (List.getElem_mem h2)
  ·simp [List.getD_eq_getElem?_getD, List.getElem?_eq_none (show c.length ≤ a.toNat by omega)]
 ·omega
theorem nlow_bd (sd : Int) : 0 ≤ nlow sd ∧ nlow sd < 256 := by
 unfold nlow
 rw [BitVec.toNat_and]
 have h : (BitVec.ofInt IntKind.u64.bits (sd.fdiv (2 ^ (min (40 : Int).toNat IntKind.u64.bits)))).toNat &&& (BitVec.ofInt IntKind.u64.bits 255).toNat ≤ 255 := Nat.le_trans Nat.and_le_right (by decide)
 generalize (BitVec.ofInt IntKind.u64.bits (sd.fdiv (2 ^ (min (40 : Int).toNat IntKind.u64.bits)))).toNat &&& (BitVec.ofInt IntKind.u64.bits 255).toNat = m at h
 have e1 : IntKind.u64.wrap (m : Int) = m := by simp only [IntKind.wrap, show IntKind.u64.signed = false from rfl, Bool.false_and, Bool.false_eq_true, if_false, show IntKind.u64.bits = 64 from rfl]; omega
 rw [e1, wrap_i64 (by omega) (by omega)]
 omega
theorem nxS_bd {c : List Int} {a sd : Int} (h : srcOk c) : 0 ≤ nxS c a sd ∧ nxS c a sd < 256 := by
 unfold nxS
 split
 ·exact nb_bd h
 ·exact nlow_bd _

def k_srcNext : RC := (.seq (.reg false [⟨none, .mv 2 (.c (.sc (.int .i64 0)))⟩]) ((.seq (.reg false [⟨none, .mv 3 (.c (.sc (.int .i64 0)))⟩]) ((.seq ((.seq (.reg true [⟨none, .mv 4 (.t 0)⟩, ⟨none, .nck 5 (.t 4)⟩, ⟨none, .fa 6 1 (.t 5)⟩, ⟨none, .ld 7 false 1 (.t 6)⟩, ⟨none, .mv 8 (.t 0)⟩, ⟨none, .nck 9 (.t 8)⟩, ⟨none, .fa 10 0 (.t 9)⟩, ⟨none, .ld 11 false 1 (.t 10)⟩, ⟨none, .len 12 (.t 11)⟩, ⟨none, .bin 13 .lss (.t 7) (.t 12)⟩]) (.cond (.t 13) (.reg true [⟨none, .mv 14 (.t 0)⟩, ⟨none, .nck 15 (.t 14)⟩, ⟨none, .fa 16 0 (.t 15)⟩, ⟨none, .ld 17 false 1 (.t 16)⟩, ⟨none, .mv 18 (.t 0)⟩, ⟨none, .nck 19 (.t 18)⟩, ⟨none, .fa 20 1 (.t 19)⟩, ⟨none, .ld 21 false 1 (.t 20)⟩, ⟨none, .ia 22 1 (.t 17) (.t 21)⟩, ⟨none, .ld 23 false 1 (.t 22)⟩, ⟨none, .cvt 24 .i64 (.t 23)⟩, ⟨none, .mv 3 (.t 24)⟩]) (.skip)))) ((.seq (.reg false [⟨none, .mv 25 (.t 0)⟩, ⟨none, .nck 26 (.t 25)⟩, ⟨none, .fa 27 1 (.t 26)⟩, ⟨none, .ld 28 false 1 (.t 27)⟩, ⟨none, .bin 29 .add (.t 28) (.c (.sc (.int .i64 1)))⟩, ⟨none, .nck 30 (.t 25)⟩, ⟨none, .fa 31 1 (.t 30)⟩, ⟨none, .st 1 (.t 31) (.t 29)⟩]) ((.seq (.reg false [⟨none, .mv 32 (.t 0)⟩, ⟨none, .mv 33 (.t 0)⟩, ⟨none, .nck 34 (.t 33)⟩, ⟨none, .fa 35 2 (.t 34)⟩, ⟨none, .ld 36 false 1 (.t 35)⟩, ⟨none, .bin 37 .mul (.t 36) (.c (.sc (.int .u64 6364136223846793005)))⟩, ⟨none, .mv 38 (.t 3)⟩, ⟨none, .cvt 39 .u64 (.t 38)⟩, ⟨none, .bin 40 .add (.t 37) (.t 39)⟩, ⟨none, .bin 41 .add (.t 40) (.c (.sc (.int .u64 1442695040888963407)))⟩, ⟨none, .nck 42 (.t 32)⟩, ⟨none, .fa 43 2 (.t 42)⟩, ⟨none, .st 1 (.t 43) (.t 41)⟩]) ((.seq ((.seq (.reg true [⟨none, .mv 44 (.t 0)⟩, ⟨none, .nck 45 (.t 44)⟩, ⟨none, .fa 46 1 (.t 45)⟩, ⟨none, .ld 47 false 1 (.t 46)⟩, ⟨none, .mv 48 (.t 0)⟩, ⟨none, .nck 49 (.t 48)⟩, ⟨none, .fa 50 0 (.t 49)⟩, ⟨none, .ld 51 false 1 (.t 50)⟩, ⟨none, .len 52 (.t 51)⟩, ⟨none, .bin 53 .leq (.t 47) (.t 52)⟩]) (.cond (.t 53) ((.seq (.reg false [⟨none, .mv 54 (.t 3)⟩, ⟨none, .mv 2 (.t 54)⟩]) (.ret))) (.skip)))) ((.seq (.reg false [⟨none, .mv 55 (.t 0)⟩, ⟨none, .nck 56 (.t 55)⟩, ⟨none, .fa 57 2 (.t 56)⟩, ⟨none, .ld 58 false 1 (.t 57)⟩, ⟨none, .bin 59 .shr (.t 58) (.c (.sc (.int .u64 40)))⟩, ⟨none, .bin 60 .and (.t 59) (.c (.sc (.int .u64 255)))⟩, ⟨none, .cvt 61 .i64 (.t 60)⟩, ⟨none, .mv 2 (.t 61)⟩]) (.ret))))))))))))))
def K_srcNext (P : Program) (fno : Nat) : Prop := ∀ (nn : Option Bool) (c : List Int) (a sd : Int), srcOk c → 0 ≤ a → a ≤ 1000000000 → AFW P fno [uS nn c a sd] [.pw 3000000000 0 0] [uS nn c (a + 1) (nsd c a sd)] (.own (.sc (.int .i64 (nxS c a sd))))
theorem a_srcNext {P : Program} (hm : P.follows .mixedOrders = true) {g : Nat} (hr : resF P g = some (62, k_srcNext, [.t 2])) : K_srcNext P g := by
 intro nn c a sd hc h0 hA
 have hn := nb_bd (a := a) hc
 have hlen := hc.2
 have hw := wrap_i64 (x := a + 1) (by omega) (by omega)
 refine afw_of_res (wv := .no) hr hm rfl rfl rfl fun hb ha => ?_
 by_cases h1 : a < c.length
 ·have ea : nb c a = c.getD a.toNat 0 := by simp [nb, h1]
  have hlt : a.toNat < c.length := by omega
  have e2 : D.at (c.map eU) a.toNat = .sc (.int .u8 (nb c a)) := by rw [at_map hlt, ea]; simp [eU, hlt]
  have hcv := wrap_i64 (x := nb c a) (by omega) (by omega)
  have h2 : a + 1 ≤ c.length := by omega
  have ex : nxS c a sd = nb c a := by simp [nxS, h1]
  rw [ex]
  simp +contextual -implicitDefEqProofs only [k_srcNext, uS, srcD, h1, h0, h2, hw, e2, hcv, D.put, D.cells, D.size, D.isAg, D.sub, modeOf, noPtrs, List.length_map, go_sem, ↓reduceIte, Nat.reduceEqDiff, Nat.reduceAdd, Nat.reduceLeDiff, Nat.reduceLT]
  exact rfl
 ·have ea : nb c a = 0 := by simp [nb, h1]
  have h2 : ¬ a + 1 ≤ c.length := by omega
  have ex : nxS c a sd = nlow (nsd c a sd) := by simp [nxS, h1]
  have en : nsd c a sd = IntKind.u64.wrap (IntKind.u64.wrap (IntKind.u64.wrap (sd * 6364136223846793005) + IntKind.u64.wrap 0) + 1442695040888963407) := by unfold nsd; rw [ea]
  rw [ex, en]
  simp +contextual -implicitDefEqProofs only [k_srcNext, uS, srcD, h1, h2, hw, D.put, D.cells, D.size, D.isAg, D.sub, modeOf, noPtrs, List.length_map, go_sem, ↓reduceIte, Nat.reduceEqDiff, Nat.reduceAdd, Nat.reduceLeDiff, Nat.reduceLT]
  exact ⟨by decide, D.Le.refl _⟩

def k_srcPick (f1 : Nat) : RC := (.seq (.reg false [⟨none, .mv 4 (.c (.sc (.int .i64 0)))⟩]) ((.seq ((.seq (.reg false [⟨none, .mv 6 (.t 1)⟩, ⟨none, .bin 7 .leq (.t 6) (.c (.sc (.int .i64 1)))⟩]) (.cond (.t 7) ((.seq (.reg false [⟨none, .mv 4 (.c (.sc (.int .i64 0)))⟩]) (.ret))) (.skip)))) ((.seq (.reg false [⟨none, .mv 8 (.t 0)⟩, ⟨none, .wcl (some 9) f1 [(.t 8)]⟩, ⟨none, .mv 5 (.t 9)⟩]) ((.seq ((.seq (.reg false [⟨none, .mv 10 (.t 1)⟩, ⟨none, .bin 11 .gtr (.t 10) (.c (.sc (.int .i64 200)))⟩]) (.cond (.t 11) (.reg false [⟨none, .mv 12 (.t 5)⟩, ⟨none, .bin 13 .mul (.t 12) (.c (.sc (.int .i64 256)))⟩, ⟨none, .mv 14 (.t 0)⟩, ⟨none, .wcl (some 15) f1 [(.t 14)]⟩, ⟨none, .bin 16 .add (.t 13) (.t 15)⟩, ⟨none, .mv 5 (.t 16)⟩]) (.skip)))) ((.seq (.reg false [⟨none, .mv 17 (.t 5)⟩, ⟨none, .mv 18 (.t 1)⟩, ⟨none, .bin 19 .rem (.t 17) (.t 18)⟩, ⟨none, .mv 4 (.t 19)⟩]) (.ret))))))))))
def K_srcPick (P : Program) (fno : Nat) : Prop := ∀ (nn : Option Bool) (c : List Int) (a sd n : Int), srcOk c → 0 ≤ a → a ≤ 500000000 → ∃ a' sd' x, a ≤ a' ∧ a' ≤ a + 2 ∧ 0 ≤ x ∧ (n ≤ 1 → x = 0) ∧ (1 < n → x < n) ∧ AFW P fno [uS nn c a sd] [.pw 3000000000 0 0, .im none (eI n)] [uS nn c a' sd'] (.own (eI x))
theorem a_srcPick {P : Program} (hm : P.follows .mixedOrders = true) {g f1 : Nat} (hr : resF P g = some (20, k_srcPick f1, [.t 4])) (hc1 : K_srcNext P f1) : K_srcPick P g := by
 intro nn c a sd n hc h0 hA
 by_cases h1 : n ≤ 1
 ·refine ⟨a, sd, 0, by omega, by omega, by omega, fun _ => rfl, by omega, ?_⟩
  refine afw_of_res (wv := .no) hr hm rfl rfl rfl fun hb ha => ?_
  simp +contextual -implicitDefEqProofs only [k_srcPick, uS, srcD, h1, eI, go_sem, ↓reduceIte, Nat.reduceEqDiff, Nat.reduceAdd]
 have b1 := nxS_bd (a := a) (sd := sd) hc
 by_cases h2 : n > 200
 ·have b2 := nxS_bd (a := a + 1) (sd := nsd c a sd) hc
  have w1 := wrap_i64 (x := nxS c a sd * 256) (by omega) (by omega)
  have w2 := wrap_i64 (x := nxS c a sd * 256 + nxS c (a + 1) (nsd c a sd)) (by omega) (by omega)
  have hn0 : n ≠ 0 := by omega
  refine ⟨a + 1 + 1, nsd c (a + 1) (nsd c a sd), (nxS c a sd * 256 + nxS c (a + 1) (nsd c a sd)).tmod n, by omega, by omega, Int.tmod_nonneg _ (by omega), by omega, fun _ => Int.tmod_lt_of_pos _ (by omega), ?_⟩
  refine afw_of_res (wv := .no) hr hm rfl rfl rfl fun hb ha => ?_
  simp +contextual -implicitDefEqProofs only [k_srcPick, uS, srcD, h1, eI, go_sem, ↓reduceIte, Nat.reduceEqDiff, Nat.reduceAdd]
  refine wcl_self [3000000000] [] (by rfl) (by rfl) (by rfl) (hc1 nn c a sd hc h0 (by omega)) rfl (by simp [wOut, outU, uS, srcD, noPtrs, D.noPtr, shWL, AV.shW, posW, shUs, U.shW, St.unit, lu]) ?_
  simp +contextual -implicitDefEqProofs only [uS, srcD, h2, w1, go_sem, ↓reduceIte, Nat.reduceEqDiff]
  refine wcl_self [3000000000] [] (by rfl) (by rfl) (by rfl) (hc1 nn c (a + 1) (nsd c a sd) hc (by omega) (by omega)) rfl (by simp [wOut, outU, uS, srcD, noPtrs, D.noPtr, shWL, AV.shW, posW, shUs, U.shW, St.unit, lu]) ?_
  simp +contextual -implicitDefEqProofs only [uS, srcD, w2, go_sem, ↓reduceIte, Nat.reduceEqDiff]
  exact hn0
 ·have hn0 : n ≠ 0 := by omega
  refine ⟨a + 1, nsd c a sd, (nxS c a sd).tmod n, by omega, by omega, Int.tmod_nonneg _ (by omega), by omega, fun _ => Int.tmod_lt_of_pos _ (by omega), ?_⟩
  refine afw_of_res (wv := .no) hr hm rfl rfl rfl fun hb ha => ?_
  simp +contextual -implicitDefEqProofs only [k_srcPick, uS, srcD, h1, eI, go_sem, ↓reduceIte, Nat.reduceEqDiff, Nat.reduceAdd]
  refine wcl_self [3000000000] [] (by rfl) (by rfl) (by rfl) (hc1 nn c a sd hc h0 (by omega)) rfl (by simp [wOut, outU, uS, srcD, noPtrs, D.noPtr, shWL, AV.shW, posW, shUs, U.shW, St.unit, lu]) ?_
  simp +contextual -implicitDefEqProofs only [uS, srcD, h2, go_sem, ↓reduceIte, Nat.reduceEqDiff]
  exact hn0

def k_srcOne (f1 : Nat) : RC := (.seq (.reg false [⟨none, .mv 4 (.c (.sc (.bool false)))⟩]) ((.seq (.reg false [⟨none, .mv 5 (.t 0)⟩, ⟨none, .mv 6 (.t 1)⟩, ⟨none, .wcl (some 7) f1 [(.t 5), (.t 6)]⟩, ⟨none, .bin 8 .eql (.t 7) (.c (.sc (.int .i64 0)))⟩, ⟨none, .mv 4 (.t 8)⟩]) (.ret))))
def K_srcOne (P : Program) (fno : Nat) : Prop := ∀ (nn : Option Bool) (c : List Int) (a sd n : Int), srcOk c → 0 ≤ a → a ≤ 500000000 → ∃ a' sd' b, a ≤ a' ∧ a' ≤ a + 2 ∧ AFW P fno [uS nn c a sd] [.pw 3000000000 0 0, .im none (eI n)] [uS nn c a' sd'] (.own (eB b))
theorem a_srcOne {P : Program} (hm : P.follows .mixedOrders = true) {g f1 : Nat} (hr : resF P g = some (9, k_srcOne f1, [.t 4])) (hc1 : K_srcPick P f1) : K_srcOne P g := by
 intro nn c a sd n hc h0 hA
 obtain ⟨a', sd', x, p1, p2, p3, p4, p5, hP⟩ := hc1 nn c a sd n hc h0 hA
 refine ⟨a', sd', x == 0, p1, p2, ?_⟩
 refine afw_of_res (wv := .no) hr hm rfl rfl rfl fun hb ha => ?_
 simp +contextual -implicitDefEqProofs only [k_srcOne, uS, srcD, eI, go_sem, eB, ↓reduceIte, Nat.reduceEqDiff, Nat.reduceAdd]
 refine wcl_self [3000000000] [] (by rfl) (by rfl) (by rfl) hP rfl (by simp [wOut, outU, uS, srcD, noPtrs, D.noPtr, shWL, AV.shW, posW, shUs, U.shW, St.unit, lu]) ?_
 simp +contextual -implicitDefEqProofs only [uS, srcD, eI, go_sem, ↓reduceIte]

def k_l00From : RC := (.seq (.reg false [⟨none, .mv 2 (.c (.sc (.pointer none)))⟩]) ((.seq (.reg false [⟨none, .mv 3 (.t 0)⟩, ⟨none, .bld 4 (.ag [(.ls (some true) 1 []), (.sc (.int .i64 0)), (.sc (.int .u64 0))]) [(0, 1, (.t 3))]⟩, ⟨none, .box 5 3 (.t 4)⟩, ⟨none, .mv 2 (.t 5)⟩]) (.ret))))
def K_l00From (P : Program) (fno : Nat) : Prop := ∀ (nn : Option Bool) (c : List Int), AF P fno [.ls nn 1 (c.map eU)] (.bxs (srcD nn c 0 0))
theorem a_l00From {P : Program} (hm : P.follows .mixedOrders = true) {g : Nat} (hr : resF P g = some (6, k_l00From, [.t 2])) : K_l00From P g := by
 intro nn c
 refine af_of_res hr hm rfl fun hb => ?_
 simp +contextual -implicitDefEqProofs only [k_l00From, srcD, D.cells, D.size, D.sizeL, go_sem, ↓reduceIte, Nat.reduceEqDiff, Nat.reduceAdd, Nat.reduceLeDiff, Nat.reduceBneDiff, Nat.reduceLT, Nat.reduceSub]

def k_l01DrawSig (f1 : Nat) : RC := (.seq (.reg false [⟨none, .zer 2 2 (.ag [(.sc (.int .i64 0)), (.sc (.int .i64 0))])⟩]) ((.seq (.reg false [⟨none, .mv 4 (.t 0)⟩, ⟨none, .wcl (some 5) f1 [(.t 4), (.c (.sc (.int .i64 2)))]⟩, ⟨none, .bin 6 .add (.c (.sc (.int .i64 1))) (.t 5)⟩, ⟨none, .mv 7 (.t 0)⟩, ⟨none, .wcl (some 8) f1 [(.t 7), (.c (.sc (.int .i64 2)))]⟩, ⟨none, .bin 9 .add (.c (.sc (.int .i64 1))) (.t 8)⟩, ⟨none, .bld 10 (.ag [(.sc (.int .i64 0)), (.sc (.int .i64 0))]) [(0, 1, (.t 6)), (1, 1, (.t 9))]⟩, ⟨none, .zer 3 2 (.ag [(.sc (.int .i64 0)), (.sc (.int .i64 0))])⟩, ⟨none, .st 2 (.t 3) (.t 10)⟩]) ((.seq ((.seq (.reg false [⟨none, .mv 11 (.t 0)⟩, ⟨none, .wcl (some 12) f1 [(.t 11), (.c (.sc (.int .i64 12)))]⟩]) (.blk 0 ((.seq (.reg false [⟨none, .bin 14 .eql (.t 12) (.c (.sc (.int .i64 0)))⟩, ⟨none, .mv 13 (.t 14)⟩]) (.cond (.t 13) (.reg false [⟨none, .mv 15 (.t 0)⟩, ⟨none, .wcl (some 16) f1 [(.t 15), (.c (.sc (.int .i64 4)))]⟩, ⟨none, .fa 17 0 (.t 3)⟩, ⟨none, .st 1 (.t 17) (.t 16)⟩]) ((.seq (.reg false [⟨none, .bin 19 .eql (.t 12) (.c (.sc (.int .i64 1)))⟩, ⟨none, .mv 18 (.t 19)⟩]) (.cond (.t 18) (.reg false [⟨none, .mv 20 (.t 0)⟩, ⟨none, .wcl (some 21) f1 [(.t 20), (.c (.sc (.int .i64 5)))]⟩, ⟨none, .fa 22 1 (.t 3)⟩, ⟨none, .st 1 (.t 22) (.t 21)⟩]) (.skip)))))))))) ((.seq (.reg false [⟨none, .ld 23 true 2 (.t 3)⟩, ⟨none, .st 2 (.t 2) (.t 23)⟩]) (.ret))))))))
def K_l01DrawSig (P : Program) (fno : Nat) : Prop := ∀ (nn : Option Bool) (c : List Int) (a sd : Int), srcOk c → 0 ≤ a → a ≤ 400000000 → ∃ a' sd' g, a ≤ a' ∧ a' ≤ a + 8 ∧ okG g = true ∧ AFW P fno [uS nn c a sd] [.pw 3000000000 0 0] [uS nn c a' sd'] (.own (eG g))
theorem a_l01DrawSig {P : Program} (hm : P.follows .mixedOrders = true) {g f1 : Nat} (hr : resF P g = some (24, k_l01DrawSig f1, [.c 2 2 true])) (hc1 : K_srcPick P f1) : K_l01DrawSig P g := by
 intro nn c a sd hc h0 hA
 obtain ⟨a1, sd1, x1, p1, p2, p3, p4, p5, hP1⟩ := hc1 nn c a sd 2 hc h0 (by omega)
 obtain ⟨a2, sd2, x2, q1, q2, q3, q4, q5, hP2⟩ := hc1 nn c a1 sd1 2 hc (by omega) (by omega)
 obtain ⟨a3, sd3, x3, r1, r2, r3, r4, r5, hP3⟩ := hc1 nn c a2 sd2 12 hc (by omega) (by omega)
 have p5 := p5 (by omega)
 have q5 := q5 (by omega)
 have w1 := wrap_i64 (x := 1 + x1) (by omega) (by omega)
 have w2 := wrap_i64 (x := 1 + x2) (by omega) (by omega)
 by_cases h3 : x3 = 0
 ·have h3b : (x3 == 0) = true := by simp [h3]
  obtain ⟨a4, sd4, x4, s1, s2, s3, s4, s5, hP4⟩ := hc1 nn c a3 sd3 4 hc (by omega) (by omega)
  have s5 := s5 (by omega)
  refine ⟨a4, sd4, (x4, 1 + x2), by omega, by omega, by simp [okG, isIn]; omega, ?_⟩
  refine afw_of_res (wv := .no) hr hm rfl rfl rfl fun hb ha => ?_
  simp +contextual -implicitDefEqProofs only [k_l01DrawSig, uS, srcD, D.size, D.sizeL, go_sem, ↓reduceIte, Nat.reduceEqDiff, Nat.reduceAdd, Nat.reduceBneDiff, Nat.reduceLT]
  refine wcl_self [3000000000] [] (by rfl) (by rfl) (by rfl) hP1 rfl (by simp [wOut, outU, uS, srcD, noPtrs, D.noPtr, shWL, AV.shW, posW, shUs, U.shW, St.unit, lu]) ?_
  simp +contextual -implicitDefEqProofs only [uS, srcD, eI, w1, go_sem, ↓reduceIte, Nat.reduceEqDiff]
  refine wcl_self [3000000000] [] (by rfl) (by rfl) (by rfl) hP2 rfl (by simp [wOut, outU, uS, srcD, noPtrs, D.noPtr, shWL, AV.shW, posW, shUs, U.shW, St.unit, lu]) ?_
  simp +contextual -implicitDefEqProofs only [uS, srcD, eI, w2, D.put, D.cells, D.size, D.sizeL, D.isAg, modeOf, noPtrs, go_sem, ↓reduceIte, Nat.reduceEqDiff, Nat.reduceAdd, Nat.reduceLeDiff, Nat.reduceBneDiff, Nat.reduceLT, Nat.reduceSub]
  refine wcl_self [3000000000] [] (by rfl) (by rfl) (by rfl) hP3 rfl (by simp [wOut, outU, uS, srcD, noPtrs, D.noPtr, shWL, AV.shW, posW, shUs, U.shW, St.unit, lu]) ?_
  simp +contextual -implicitDefEqProofs only [uS, srcD, eI, eG, h3b, go_sem, ↓reduceIte, Nat.reduceEqDiff]
  refine wcl_self [3000000000] [] (by rfl) (by rfl) (by rfl) hP4 rfl (by simp [wOut, outU, uS, srcD, noPtrs, D.noPtr, shWL, AV.shW, posW, shUs, U.shW, St.unit, lu]) ?_
  simp +contextual -implicitDefEqProofs only [uS, srcD, eI, D.put, D.cells, D.size, D.sizeL, D.isAg, D.sub, modeOf, noPtrs, go_sem, ↓reduceIte, Nat.reduceEqDiff, Nat.reduceAdd, Nat.reduceLeDiff, Nat.reduceLT]
 have h3b : (x3 == 0) = false := by simp [h3]
 by_cases h4 : x3 = 1
 ·have h4b : (x3 == 1) = true := by simp [h4]
  obtain ⟨a4, sd4, x4, s1, s2, s3, s4, s5, hP4⟩ := hc1 nn c a3 sd3 5 hc (by omega) (by omega)
  have s5 := s5 (by omega)
  refine ⟨a4, sd4, (1 + x1, x4), by omega, by omega, by simp [okG, isIn]; omega, ?_⟩
  refine afw_of_res (wv := .no) hr hm rfl rfl rfl fun hb ha => ?_
  simp +contextual -implicitDefEqProofs only [k_l01DrawSig, uS, srcD, D.size, D.sizeL, go_sem, ↓reduceIte, Nat.reduceEqDiff, Nat.reduceAdd, Nat.reduceBneDiff, Nat.reduceLT]
  refine wcl_self [3000000000] [] (by rfl) (by rfl) (by rfl) hP1 rfl (by simp [wOut, outU, uS, srcD, noPtrs, D.noPtr, shWL, AV.shW, posW, shUs, U.shW, St.unit, lu]) ?_
  simp +contextual -implicitDefEqProofs only [uS, srcD, eI, w1, go_sem, ↓reduceIte, Nat.reduceEqDiff]
  refine wcl_self [3000000000] [] (by rfl) (by rfl) (by rfl) hP2 rfl (by simp [wOut, outU, uS, srcD, noPtrs, D.noPtr, shWL, AV.shW, posW, shUs, U.shW, St.unit, lu]) ?_
  simp +contextual -implicitDefEqProofs only [uS, srcD, eI, w2, D.put, D.cells, D.size, D.sizeL, D.isAg, modeOf, noPtrs, go_sem, ↓reduceIte, Nat.reduceEqDiff, Nat.reduceAdd, Nat.reduceLeDiff, Nat.reduceBneDiff, Nat.reduceLT, Nat.reduceSub]
  refine wcl_self [3000000000] [] (by rfl) (by rfl) (by rfl) hP3 rfl (by simp [wOut, outU, uS, srcD, noPtrs, D.noPtr, shWL, AV.shW, posW, shUs, U.shW, St.unit, lu]) ?_
  simp +contextual -implicitDefEqProofs only [uS, srcD, eI, eG, h3b, h4b, go_sem, ↓reduceIte, Nat.reduceEqDiff]
  refine wcl_self [3000000000] [] (by rfl) (by rfl) (by rfl) hP4 rfl (by simp [wOut, outU, uS, srcD, noPtrs, D.noPtr, shWL, AV.shW, posW, shUs, U.shW, St.unit, lu]) ?_
  simp +contextual -implicitDefEqProofs only [uS, srcD, eI, D.put, D.cells, D.size, D.sizeL, D.isAg, D.sub, modeOf, noPtrs, go_sem, ↓reduceIte, Nat.reduceEqDiff, Nat.reduceAdd, Nat.reduceLeDiff, Nat.reduceLT]
 ·have h4b : (x3 == 1) = false := by simp [h4]
  refine ⟨a3, sd3, (1 + x1, 1 + x2), by omega, by omega, by simp [okG, isIn]; omega, ?_⟩
  refine afw_of_res (wv := .no) hr hm rfl rfl rfl fun hb ha => ?_
  simp +contextual -implicitDefEqProofs only [k_l01DrawSig, uS, srcD, D.size, D.sizeL, go_sem, ↓reduceIte, Nat.reduceEqDiff, Nat.reduceAdd, Nat.reduceBneDiff, Nat.reduceLT]
  refine wcl_self [3000000000] [] (by rfl) (by rfl) (by rfl) hP1 rfl (by simp [wOut, outU, uS, srcD, noPtrs, D.noPtr, shWL, AV.shW, posW, shUs, U.shW, St.unit, lu]) ?_
  simp +contextual -implicitDefEqProofs only [uS, srcD, eI, w1, go_sem, ↓reduceIte, Nat.reduceEqDiff]
  refine wcl_self [3000000000] [] (by rfl) (by rfl) (by rfl) hP2 rfl (by simp [wOut, outU, uS, srcD, noPtrs, D.noPtr, shWL, AV.shW, posW, shUs, U.shW, St.unit, lu]) ?_
  simp +contextual -implicitDefEqProofs only [uS, srcD, eI, w2, D.put, D.cells, D.size, D.sizeL, D.isAg, modeOf, noPtrs, go_sem, ↓reduceIte, Nat.reduceEqDiff, Nat.reduceAdd, Nat.reduceLeDiff, Nat.reduceBneDiff, Nat.reduceLT, Nat.reduceSub]
  refine wcl_self [3000000000] [] (by rfl) (by rfl) (by rfl) hP3 rfl (by simp [wOut, outU, uS, srcD, noPtrs, D.noPtr, shWL, AV.shW, posW, shUs, U.shW, St.unit, lu]) ?_
  simp +contextual -implicitDefEqProofs only [uS, srcD, eI, eG, h3b, h4b, D.put, D.size, D.sizeL, D.isAg, D.sub, modeOf, noPtrs, go_sem, ↓reduceIte, Nat.reduceEqDiff, Nat.reduceAdd, Nat.reduceLeDiff, Nat.reduceLT]

def k_p6Sig (f1 f2 : Nat) : RC := (.seq (.reg false [⟨none, .zer 2 2 (.ag [(.sc (.int .i64 0)), (.sc (.int .i64 0))])⟩]) ((.seq (.reg false [⟨none, .mv 3 (.t 0)⟩, ⟨none, .call (some 4) f1 [(.t 3)]⟩, ⟨none, .wcl (some 5) f2 [(.t 4)]⟩, ⟨none, .st 2 (.t 2) (.t 5)⟩]) (.ret))))
def K_p6Sig (P : Program) (fno : Nat) : Prop := ∀ (nn : Option Bool) (c : List Int), srcOk c → ∃ g, okG g = true ∧ AF P fno [.ls nn 1 (c.map eU)] (.own (eG g))
theorem a_p6Sig {P : Program} (hm : P.follows .mixedOrders = true) {g f1 f2 : Nat} (hr : resF P g = some (6, k_p6Sig f1 f2, [.c 2 2 true])) (hc1 : K_l00From P f1) (hc2 : K_l01DrawSig P f2) : K_p6Sig P g := by
 intro nn c hc
 obtain ⟨a', sd', g, p1, p2, p3, hP⟩ := hc2 nn c 0 0 hc (by omega) (by omega)
 refine ⟨g, p3, ?_⟩
 refine af_of_res hr hm rfl fun hb => ?_
 simp +contextual -implicitDefEqProofs only [k_p6Sig, eG, D.size, D.sizeL, go_sem, eI, ↓reduceIte, Nat.reduceEqDiff, Nat.reduceAdd, Nat.reduceLT]
 refine callQ_self ?_ (hc1 nn c) ?_
 ·exact rfl
 simp +contextual -implicitDefEqProofs only [srcD, D.size, D.sizeL, go_sem, ↓reduceIte, Nat.reduceAdd, Nat.reduceBneDiff]
 refine wcl_self [4] [] (by rfl) (by rfl) (by rfl) hP rfl (by simp [wOut, outU, uS, srcD, noPtrs, D.noPtr, shWL, AV.shW, posW, shUs, U.shW, St.unit, lu]) ?_
 simp +contextual -implicitDefEqProofs only [uS, srcD, eG, D.put, D.size, D.sizeL, D.isAg, D.sub, modeOf, noPtrs, go_sem, eI, ↓reduceIte, Nat.reduceEqDiff, Nat.reduceAdd, Nat.reduceLeDiff, Nat.reduceLT]
end Go.Ax
