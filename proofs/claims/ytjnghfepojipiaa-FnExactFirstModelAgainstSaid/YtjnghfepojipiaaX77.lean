/- Contracts of functions of the seat, proved over the engine. No condition. -/
import Derived.Test.YtjnghfepojipiaaX76
import Derived.Test.YtjnghfepojipiaaX43
set_option linter.unusedSimpArgs false
set_option linter.unusedVariables false
set_option linter.unnecessarySimpa false
namespace Go.Ax
set_option linter.unusedSimpArgs false
set_option maxRecDepth 20000
set_option maxHeartbeats 4000000
def numM (t a p : Nat) (n : Int) : Mo := (((t : Int), (a : Int)), (p : Int), (nnL (List.range t), (List.range t).map fun i => (some false, (List.range p).map fun x => bitN n (i * p + x))),
 (nnL (List.range a), (List.range a).map fun i => (some false, (List.range p).map fun x => (some false, (List.range p).map fun y => bitN n (t * p + i * (p * p) + x * p + y)))))
theorem eM_num {t a p : Nat} {n : Int} : eM (numM t a p n) = numD t a p n := by simp [eM, eI, numM, numD, eS, rowD, tabD, eB, List.map_map, Function.comp_def, nnL]
theorem num_ok {t a p : Nat} {n : Int} (ht : t ≤ 3) (ha : a ≤ 4) (h1 : 1 ≤ p) (hp : p ≤ 3) : MoOk (numM t a p n) p := by
 refine ⟨rfl, h1, by omega, ?_, by simp [numM], ?_, by simp [numM], ?_⟩
 ·simp only [numM, okG, Bool.and_eq_true, isIn_iff']; omega
 ·intro r hr
  simp only [numM, List.mem_map] at hr
  obtain ⟨i, _, rfl⟩ := hr
  simp
 ·intro r hr
  simp only [numM, List.mem_map] at hr
  obtain ⟨i, _, rfl⟩ := hr
  refine ⟨by simp, fun s hs => ?_⟩
  simp only [List.mem_map] at hs
  obtain ⟨j, _, rfl⟩ := hs
  simp
def fmHit (t a : Nat) (q : Eq2) (p k : Nat) : Bool := !(eqT p (relE (numM t a p k) q.1) (relE (numM t a p k) q.2))
def fmBits (t a p : Nat) : Nat := t * p + a * (p * p)
def fmRow (t a : Nat) (q : Eq2) (p : Nat) : Option Nat := (List.range (2 ^ fmBits t a p)).find? (fmHit t a q p)
def fmAll (t a : Nat) (q : Eq2) (pts : Nat) : Option (Nat × Nat) := (List.range pts).findSome? fun i => (fmRow t a q (i + 1)).map fun k => (i + 1, k)
def fmR2 (t a : Nat) (q : Eq2) (p : Nat) : Mo × Int :=
 if 12 < fmBits t a p then (zMo, 3) else
 match fmAll t a q p with
 | some x => (numM t a x.1 x.2, 0)
 | none => (zMo, 6)

def fmR (g : Int × Int) (q : Eq2) (pts : Int) : Mo × Int :=
 if okQ g q = false then (zMo, 1) else if isIn pts 1 3 = false then (zMo, 2) else
 fmR2 g.1.toNat g.2.toNat q pts.toNat
theorem range_find {n k : Nat} {f : Nat → Bool} (hk : k < n) (h : f k = true) (h0 : ∀ j, j < k → f j = false) : (List.range n).find? f = some k := by
 have e : List.range n = List.range k ++ (k :: (List.range (n - k - 1)).map (· + (k + 1))) := by
  apply List.ext_getElem?
  intro i
  rcases Nat.lt_trichotomy i k with h | h | h
  ·rw [List.getElem?_append_left (by simpa using h), List.getElem?_range (by omega), List.getElem?_range h]
  ·subst h
   rw [List.getElem?_append_right (by simp)]
   simp [List.getElem?_range hk]
  ·rw [List.getElem?_append_right (by simp; omega)]
   simp only [List.length_range]
   obtain ⟨d, rfl⟩ : ∃ d, i = k + 1 + d := ⟨i - k - 1, by omega⟩
   rw [show k + 1 + d - k = d + 1 by omega, List.getElem?_cons_succ, List.getElem?_map]
   by_cases hd : k + 1 + d < n
   ·rw [List.getElem?_range hd, List.getElem?_range (by omega)]; simp; omega
   ·rw [List.getElem?_eq_none (by simp; omega), List.getElem?_eq_none (by simp; omega)]; rfl
 rw [e, List.find?_append, List.find?_eq_none.2 (by simpa using h0)]
 simp [h]
theorem range_find_none {n : Nat} {f : Nat → Bool} (h0 : ∀ j, j < n → f j = false) : (List.range n).find? f = none := List.find?_eq_none.2 (by simpa using h0)
theorem range_some {β : Type} {f : Nat → Option β} {b : β} : ∀ {n k : Nat}, k < n → f k = some b → (∀ j, j < k → f j = none) → (List.range n).findSome? f = some b
 | 0, k, hk, _, _ => by omega
 | n + 1, k, hk, h, h0 => by
  rw [List.range_succ, List.findSome?_append]
  by_cases e : k < n
  ·rw [range_some e h h0]; rfl
  ·obtain rfl : k = n := by omega
   rw [List.findSome?_eq_none_iff.2 (by simpa using h0)]
   simp [h]
theorem fm_hit {t a : Nat} {q : Eq2} {pts i k : Nat} (hi : i < pts) (hk : k < 2 ^ fmBits t a (i + 1)) (h : fmHit t a q (i + 1) k = true) (h1 : ∀ j, j < k → fmHit t a q (i + 1) j = false) (h0 : ∀ j, j < i → fmRow t a q (j + 1) = none) :
  fmAll t a q pts = some (i + 1, k) := by
 unfold fmAll
 refine range_some hi ?_ fun j hj => by rw [h0 j hj]; rfl
 unfold fmRow
 rw [range_find hk h h1]
 rfl
theorem fm_none {t a : Nat} {q : Eq2} {pts : Nat} (h0 : ∀ j, j < pts → fmRow t a q (j + 1) = none) : fmAll t a q pts = none := by
 unfold fmAll
 rw [List.findSome?_eq_none_iff]
 intro i hi
 rw [h0 i (by simpa using hi)]
 rfl
theorem fmBits_le {t a i p : Nat} (h : i + 1 ≤ p) : fmBits t a (i + 1) ≤ fmBits t a p := by
 unfold fmBits
 have h1 : t * (i + 1) ≤ t * p := Nat.mul_le_mul_left _ h
 have h2 : (i + 1) * (i + 1) ≤ p * p := Nat.mul_le_mul h h
 have h3 : a * ((i + 1) * (i + 1)) ≤ a * (p * p) := Nat.mul_le_mul_left _ h2
 omega
theorem pw_eq {b : Nat} (h : b ≤ 12) : IntKind.i64.wrap (1 * 2 ^ min b 64) = ((2 ^ b : Nat) : Int) := by
 have h1 : 2 ^ b ≤ 2 ^ 12 := Nat.pow_le_pow_right (by decide) h
 have h2 : min b 64 = b := by omega
 rw [h2, Int.one_mul, show (2 : Int) ^ b = ((2 ^ b : Nat) : Int) by push_cast; rfl]
 generalize 2 ^ b = c at h1
 exact wrap_i64 (by omega) (by omega)

def k_spFirst (f1 f2 f3 f4 f5 f6 : Nat) : RC := (.seq (.reg false [⟨none, .box 3 2 (.t 0)⟩, ⟨none, .box 4 6 (.t 1)⟩, ⟨none, .zer 6 5 (.ag [(.sc (.int .i64 0)), (.sc (.int .i64 0)), (.sc (.int .i64 0)), (.ls (some true) 1 []), (.ls (some true) 1 [])])⟩, ⟨none, .mv 7 (.c (.sc (.int .i64 0)))⟩]) ((.seq ((.seq (.reg false [⟨none, .ld 11 true 2 (.t 3)⟩, ⟨none, .call (some 12) f1 [(.t 11), (.t 4)]⟩, ⟨none, .un 13 .not (.t 12)⟩]) (.cond (.t 13) ((.seq (.reg false [⟨none, .bld 14 (.ag [(.sc (.int .i64 0)), (.sc (.int .i64 0)), (.sc (.int .i64 0)), (.ls (some true) 1 []), (.ls (some true) 1 [])]) []⟩, ⟨none, .st 5 (.t 6) (.t 14)⟩, ⟨none, .mv 7 (.c (.sc (.int .i64 1)))⟩]) (.ret))) (.skip)))) ((.seq ((.seq (.reg false [⟨none, .mv 15 (.t 2)⟩, ⟨none, .call (some 16) f2 [(.t 15), (.c (.sc (.int .i64 1))), (.c (.sc (.int .i64 3)))]⟩, ⟨none, .un 17 .not (.t 16)⟩]) (.cond (.t 17) ((.seq (.reg false [⟨none, .bld 18 (.ag [(.sc (.int .i64 0)), (.sc (.int .i64 0)), (.sc (.int .i64 0)), (.ls (some true) 1 []), (.ls (some true) 1 [])]) []⟩, ⟨none, .st 5 (.t 6) (.t 18)⟩, ⟨none, .mv 7 (.c (.sc (.int .i64 2)))⟩]) (.ret))) (.skip)))) ((.seq ((.seq (.reg false [⟨none, .ld 19 true 2 (.t 3)⟩, ⟨none, .mv 20 (.t 2)⟩, ⟨none, .call (some 21) f3 [(.t 19), (.t 20)]⟩, ⟨none, .bin 22 .gtr (.t 21) (.c (.sc (.int .i64 12)))⟩]) (.cond (.t 22) ((.seq (.reg false [⟨none, .bld 23 (.ag [(.sc (.int .i64 0)), (.sc (.int .i64 0)), (.sc (.int .i64 0)), (.ls (some true) 1 []), (.ls (some true) 1 [])]) []⟩, ⟨none, .st 5 (.t 6) (.t 23)⟩, ⟨none, .mv 7 (.c (.sc (.int .i64 3)))⟩]) (.ret))) (.skip)))) ((.seq ((.seq (.reg false [⟨none, .mv 8 (.c (.sc (.int .i64 1)))⟩]) (.blk 0 (.loop ((.seq ((.seq (.reg false [⟨none, .mv 24 (.t 8)⟩, ⟨none, .mv 25 (.t 2)⟩, ⟨none, .bin 26 .leq (.t 24) (.t 25)⟩]) (.cond (.t 26) (.skip) (.exit 0)))) ((.seq (.blk 1 ((.seq (.reg false [⟨none, .mv 9 (.c (.sc (.int .i64 0)))⟩]) (.blk 2 (.loop ((.seq ((.seq (.reg false [⟨none, .mv 29 (.t 9)⟩, ⟨none, .ld 30 true 2 (.t 3)⟩, ⟨none, .mv 31 (.t 8)⟩, ⟨none, .call (some 32) f3 [(.t 30), (.t 31)]⟩, ⟨none, .cvt 33 .u64 (.t 32)⟩, ⟨none, .bin 34 .shl (.c (.sc (.int .i64 1))) (.t 33)⟩, ⟨none, .bin 35 .lss (.t 29) (.t 34)⟩]) (.cond (.t 35) (.skip) (.exit 2)))) ((.seq (.blk 3 ((.seq (.reg false [⟨none, .ld 38 true 2 (.t 3)⟩, ⟨none, .mv 39 (.t 8)⟩, ⟨none, .mv 40 (.t 9)⟩, ⟨none, .call (some 41) f4 [(.t 38), (.t 39), (.t 40)]⟩, ⟨none, .zer 10 5 (.ag [(.sc (.int .i64 0)), (.sc (.int .i64 0)), (.sc (.int .i64 0)), (.ls (some true) 1 []), (.ls (some true) 1 [])])⟩, ⟨none, .st 5 (.t 10) (.t 41)⟩]) ((.seq (.reg false [⟨none, .fa 42 0 (.t 4)⟩, ⟨none, .call (some 43) f5 [(.t 10), (.t 42)]⟩, ⟨none, .fa 44 3 (.t 4)⟩, ⟨none, .call (some 45) f5 [(.t 10), (.t 44)]⟩, ⟨none, .call (some 46) f6 [(.t 43), (.t 45)]⟩, ⟨none, .un 47 .not (.t 46)⟩]) (.cond (.t 47) ((.seq (.reg false [⟨none, .ld 48 true 5 (.t 10)⟩, ⟨none, .st 5 (.t 6) (.t 48)⟩, ⟨none, .mv 7 (.c (.sc (.int .i64 0)))⟩]) (.ret))) (.skip))))))) (.reg false [⟨none, .mv 36 (.t 9)⟩, ⟨none, .bin 37 .add (.t 36) (.c (.sc (.int .i64 1)))⟩, ⟨none, .mv 9 (.t 37)⟩])))))))))) (.reg false [⟨none, .mv 27 (.t 8)⟩, ⟨none, .bin 28 .add (.t 27) (.c (.sc (.int .i64 1)))⟩, ⟨none, .mv 8 (.t 28)⟩]))))))))) ((.seq (.reg false [⟨none, .bld 49 (.ag [(.sc (.int .i64 0)), (.sc (.int .i64 0)), (.sc (.int .i64 0)), (.ls (some true) 1 []), (.ls (some true) 1 [])]) []⟩, ⟨none, .st 5 (.t 6) (.t 49)⟩, ⟨none, .mv 7 (.c (.sc (.int .i64 6)))⟩]) (.ret))))))))))))
def K_spFirst (P : Program) (fno : Nat) : Prop := ∀ (gs : Int × Int) (q : Eq2) (pts : Int), AF P fno [eG gs, eQ q, eI pts] (.tup ([.own (eM (fmR gs q pts).1), .own (eI (fmR gs q pts).2)]))
theorem a_spFirst {P : Program} (hm : P.follows .mixedOrders = true) {g f1 f2 f3 f4 f5 f6 : Nat} (hr : resF P g = some (50, k_spFirst f1 f2 f3 f4 f5 f6, [.c 6 5 true, .t 7])) (hc1 : K_l04Equation P f1) (hc2 : K_l00In P f2) (hc3 : K_l05BitsOf P f3) (hc4 : K_l05Numbered P f4) (hc5 : K_l05Rel P f5) (hc6 : K_l05SameRows P f6) : K_spFirst P g := by
 intro gs q pts
 obtain ⟨g1, g2⟩ := gs
 obtain ⟨qa, qb⟩ := q
 refine af_of_res hr hm rfl fun hb => ?_
 obtain ⟨ak, av, ann, aks, rfl⟩ := Ex.ex qa
 obtain ⟨bk, bv, bnn, bks, rfl⟩ := Ex.ex qb
 simp +contextual -implicitDefEqProofs only [k_spFirst, eM, eS, eI, eG, eQ, D.at, D.size, D.sizeL, D.sub, beq_self_eq_true, D.isAg, List.map_nil, List.map_cons, bne, Bool.not_false, Bool.and_true, go_sem, ↓reduceIte, Nat.reduceEqDiff, Nat.reduceAdd, Nat.reduceLeDiff, Nat.reduceBEq, Nat.reduceLT]
 refine callQ_self (ds := [eG (g1, g2), .pt (eQ (.mk ak av ann aks, .mk bk bv bnn bks)) 0]) (by rfl) (hc1 (g1, g2) (.mk ak av ann aks, .mk bk bv bnn bks)) ?_
 cases hq : okQ (g1, g2) (.mk ak av ann aks, .mk bk bv bnn bks)
 ·rw [show fmR (g1, g2) (.mk ak av ann aks, .mk bk bv bnn bks) pts = (zMo, 1) by simp [fmR, hq]]
  simp +contextual -implicitDefEqProofs only [zMo, eB, D.at, D.size, D.sizeL, D.sub, beq_self_eq_true, D.isAg, List.map_nil, List.map_cons, List.length_cons, List.length_nil, bne, Bool.not_false, Bool.and_true, Bool.and_false, Bool.or_true, Bool.or_false, go_sem, ↓reduceIte, Nat.reduceEqDiff, Nat.reduceAdd, Nat.reduceLeDiff, Nat.reduceBEq, Nat.reduceLT]
 simp +contextual -implicitDefEqProofs only [eB, List.map_nil, List.map_cons, Bool.not_true, go_sem, ↓reduceIte, Nat.reduceEqDiff]
 refine callQ_self (ds := [eI pts, eI 1, eI 3]) (by rfl) (hc2 pts 1 3) ?_
 cases hin : isIn pts 1 3
 ·rw [show fmR (g1, g2) (.mk ak av ann aks, .mk bk bv bnn bks) pts = (zMo, 2) by simp [fmR, hq, hin]]
  simp +contextual -implicitDefEqProofs only [zMo, eB, D.at, D.size, D.sizeL, D.sub, beq_self_eq_true, D.isAg, List.map_nil, List.map_cons, List.length_cons, List.length_nil, bne, Bool.not_false, Bool.and_true, Bool.and_false, Bool.or_true, Bool.or_false, go_sem, ↓reduceIte, Nat.reduceEqDiff, Nat.reduceAdd, Nat.reduceLeDiff, Nat.reduceBEq, Nat.reduceLT]
 simp +contextual -implicitDefEqProofs only [eB, D.at, D.sub, D.isAg, List.map_nil, List.map_cons, Bool.not_true, go_sem, ↓reduceIte, Nat.reduceEqDiff, Nat.reduceLeDiff]
 have hT := okQ_tree hq
 have hg : 0 ≤ g1 ∧ g1 ≤ 3 ∧ 0 ≤ g2 ∧ g2 ≤ 4 := by
  have h := hq
  simp only [okQ, Bool.and_eq_true] at h
  have h := h.1
  simp only [okG, Bool.and_eq_true, isIn_iff'] at h
  omega
 obtain ⟨t, rfl⟩ : ∃ t : Nat, g1 = t := ⟨g1.toNat, by omega⟩
 obtain ⟨a, rfl⟩ : ∃ a : Nat, g2 = a := ⟨g2.toNat, by omega⟩
 have hpi := isIn_iff'.1 hin
 obtain ⟨p, rfl⟩ : ∃ p : Nat, pts = p := ⟨pts.toNat, by omega⟩
 have ht : t ≤ 3 := by omega
 have ha : a ≤ 4 := by omega
 have hp : p ≤ 3 := by omega
 have hfm : fmR ((t : Int), (a : Int)) (.mk ak av ann aks, .mk bk bv bnn bks) p = fmR2 t a (.mk ak av ann aks, .mk bk bv bnn bks) p := by simp [fmR, hq, hin]
 have hbb : ∀ p : Nat, p ≤ 3 → IntKind.i64.wrap ((t : Int) * (p : Int)) = ((t * p : Nat) : Int) ∧ IntKind.i64.wrap ((a : Int) * (p : Int)) = ((a * p : Nat) : Int) ∧ IntKind.i64.wrap (((a * p : Nat) : Int) * (p : Int)) = ((a * (p * p) : Nat) : Int) ∧ IntKind.i64.wrap (((t * p : Nat) : Int) + ((a * (p * p) : Nat) : Int)) = ((fmBits t a p : Nat) : Int) := by
  intro p hp
  have h1 : t * p ≤ 3 * 3 := Nat.mul_le_mul ht hp
  have h2 : p * p ≤ 3 * 3 := Nat.mul_le_mul hp hp
  have h3 : a * (p * p) ≤ 4 * (3 * 3) := Nat.mul_le_mul ha h2
  have h4 : a * p ≤ 4 * 3 := Nat.mul_le_mul ha hp
  refine ⟨?_, ?_, ?_, ?_⟩
  ·rw [← Int.natCast_mul]; exact wrap_i64 (by omega) (by omega)
  ·rw [← Int.natCast_mul]; exact wrap_i64 (by omega) (by omega)
  ·rw [← Int.natCast_mul, Nat.mul_assoc]; exact wrap_i64 (by omega) (by omega)
  ·rw [← Int.natCast_add]; exact wrap_i64 (by omega) (by omega)
 obtain ⟨e1, e2, e3, e4⟩ := hbb p hp
 refine callQ_self (ds := [eG ((t : Int), (a : Int)), eI p]) (by rfl) (hc3 t a p ht ha hp) ?_
 cases h12 : decide (((fmBits t a p : Nat) : Int) > 12)
 case true =>
  have hgt : 12 < fmBits t a p := by have := of_decide_eq_true h12; omega
  have h12p := of_decide_eq_true h12
  rw [hfm, fmR2, if_pos hgt]
  simp +contextual -implicitDefEqProofs only [show t * p + a * (p * p) = fmBits t a p from rfl, h12p, zMo, eI, D.at, D.size, D.sizeL, D.sub, beq_self_eq_true, D.isAg, List.map_nil, List.map_cons, List.length_cons, List.length_nil, bne, Bool.and_true, Bool.and_false, Bool.or_true, Bool.or_false, go_sem, ↓reduceIte, Nat.reduceEqDiff, Nat.reduceAdd, Nat.reduceLeDiff, Nat.reduceBEq, Nat.reduceLT]
 have hgt : ¬ 12 < fmBits t a p := by have := of_decide_eq_false h12; omega
 have h12p := of_decide_eq_false h12
 rw [hfm, fmR2, if_neg hgt]
 simp +contextual -implicitDefEqProofs only [show t * p + a * (p * p) = fmBits t a p from rfl, h12p, eI, go_sem, ↓reduceIte]
 refine vc_onU (α := Nat) [7, 8, 9, 10, 24, 25, 26, 27, 28, 29, 30, 31, 32, 33, 34, 35, 36, 37, 38, 39, 40, 41, 42, 43, 44, 45, 46, 47, 48] (fun i => [(8, .im none (.sc (.int .i64 ((i + 1 : Nat) : Int))))]) (fun i => [(6, .ar true (some false) 5 [.ag [.sc (.int .i64 0), .sc (.int .i64 0), .sc (.int .i64 0), .ls (some true) 1 [], .ls (some true) 1 []]]), (4, .ar false (some false) 6 [.ag [.sc (.int .i64 (Ex.mk ak av ann aks).k), .sc (.int .i64 (Ex.mk ak av ann aks).n), .ls (Ex.mk ak av ann aks).nn 3 ((Ex.mk ak av ann aks).ks.map eE), .sc (.int .i64 (Ex.mk bk bv bnn bks).k), .sc (.int .i64 (Ex.mk bk bv bnn bks).n), .ls (Ex.mk bk bv bnn bks).nn 3 ((Ex.mk bk bv bnn bks).ks.map eE)]]), (3, .ar false (some false) 2 [.ag [.sc (.int .i64 t), .sc (.int .i64 a)]])]) (fun i => i ≤ p ∧ ∀ j, j < i → fmRow t a (.mk ak av ann aks, .mk bk bv bnn bks) (j + 1) = none) (fun i => p - i) 0 (Ent.to [] (by simp only [go_sem]; rfl) rfl (by simp) (by rfl) (by simp only [subEnv, go_sem, ↓reduceIte, Nat.reduceEqDiff, keep, memN] <;> simp)) ⟨Nat.zero_le _, fun j hj => absurd hj (Nat.not_lt_zero j)⟩ ?_
 rintro i ⟨hi0, hn0⟩
 by_cases hi : i < p
 case neg =>
  obtain rfl : i = p := by omega
  have hle : decide (((i + 1 : Nat) : Int) ≤ (i : Int)) = false := by simp; omega
  rw [fm_none hn0]
  simp +contextual -implicitDefEqProofs only [hle, zMo, D.at, D.size, D.sizeL, D.sub, beq_self_eq_true, D.isAg, List.map_nil, List.map_cons, List.length_cons, List.length_nil, bne, Bool.and_true, Bool.and_false, Bool.or_true, Bool.or_false, go_sem, ↓reduceIte, Nat.reduceEqDiff, Nat.reduceAdd, Nat.reduceLeDiff, Nat.reduceBEq, Nat.reduceLT]
 have hle : decide (((i + 1 : Nat) : Int) ≤ (p : Int)) = true := by simp; omega
 have hbl := fmBits_le (t := t) (a := a) (show i + 1 ≤ p by omega)
 have hpw := pw_eq (b := fmBits t a (i + 1)) (by omega)
 have h2b : 2 ^ fmBits t a (i + 1) ≤ 2 ^ 12 := Nat.pow_le_pow_right (by decide) (by omega)
 obtain ⟨f1, f2, f3, f4⟩ := hbb (i + 1) (by omega)
 simp +contextual -implicitDefEqProofs only [hle, go_sem, ↓reduceIte, Nat.reduceEqDiff]
 refine vc_onU (α := Nat) [7, 9, 10, 29, 30, 31, 32, 33, 34, 35, 36, 37, 38, 39, 40, 41, 42, 43, 44, 45, 46, 47, 48] (fun k => [(9, .im none (.sc (.int .i64 k)))]) (fun k => [(6, .ar true (some false) 5 [.ag [.sc (.int .i64 0), .sc (.int .i64 0), .sc (.int .i64 0), .ls (some true) 1 [], .ls (some true) 1 []]]), (4, .ar false (some false) 6 [.ag [.sc (.int .i64 (Ex.mk ak av ann aks).k), .sc (.int .i64 (Ex.mk ak av ann aks).n), .ls (Ex.mk ak av ann aks).nn 3 ((Ex.mk ak av ann aks).ks.map eE), .sc (.int .i64 (Ex.mk bk bv bnn bks).k), .sc (.int .i64 (Ex.mk bk bv bnn bks).n), .ls (Ex.mk bk bv bnn bks).nn 3 ((Ex.mk bk bv bnn bks).ks.map eE)]]), (3, .ar false (some false) 2 [.ag [.sc (.int .i64 t), .sc (.int .i64 a)]])]) (fun k => k ≤ 2 ^ fmBits t a (i + 1) ∧ ∀ j, j < k → fmHit t a (.mk ak av ann aks, .mk bk bv bnn bks) (i + 1) j = false) (fun k => 2 ^ fmBits t a (i + 1) - k) 0 (Ent.to [] (by simp only [go_sem]; rfl) rfl (by simp) (by rfl) (by simp only [subEnv, go_sem, ↓reduceIte, Nat.reduceEqDiff, keep, memN] <;> simp)) ⟨Nat.zero_le _, fun j hj => absurd hj (Nat.not_lt_zero j)⟩ ?_
 rintro k ⟨hk0, hnk⟩
 simp +contextual -implicitDefEqProofs only [D.at, D.sub, D.isAg, List.map_nil, List.map_cons, go_sem, ↓reduceIte, Nat.reduceEqDiff, Nat.reduceLeDiff]
 refine callQ_self (ds := [eG ((t : Int), (a : Int)), eI ((i + 1 : Nat) : Int)]) (by rfl) (hc3 t a (i + 1) ht ha (by omega)) ?_
 have hcv : IntKind.u64.wrap ((fmBits t a (i + 1) : Nat) : Int) = ((fmBits t a (i + 1) : Nat) : Int) := by
  have : fmBits t a (i + 1) ≤ 12 := by omega
  unfold IntKind.wrap
  simp [IntKind.signed, IntKind.bits]
  omega
 by_cases hk : k < 2 ^ fmBits t a (i + 1)
 case neg =>
  obtain rfl : k = 2 ^ fmBits t a (i + 1) := by omega
  simp +contextual -implicitDefEqProofs only [show t * (i + 1) + a * ((i + 1) * (i + 1)) = fmBits t a (i + 1) from rfl, hcv, hpw, Nat.lt_irrefl, eI, go_sem, ↓reduceIte, Nat.reduceEqDiff, Int.ofNat_lt, Int.natCast_nonneg]
  refine ⟨i + 1, ⟨by omega, fun j hj => ?_⟩, by omega, ?_⟩
  ·rcases Nat.lt_succ_iff_lt_or_eq.1 hj with h | rfl
   ·exact hn0 j h
   ·exact range_find_none hnk
  ·rw [wrap_i64 (by omega) (by omega)]
   exact Ent.to [] (by simp only [go_sem]; rfl) rfl (by simp) (by rfl) (by simp only [subEnv, go_sem, ↓reduceIte, Nat.reduceEqDiff] <;> simp)
 have hM : MoOk (numM t a (i + 1) k) (i + 1) := num_ok ht ha (by omega) (by omega)
 have hN := hc4 t a (i + 1) k ht ha (by omega) (by omega) (by omega)
 obtain ⟨n1, l1, n2, l2, hD⟩ : ∃ n1 l1 n2 l2, numD t a (i + 1) k = .ag [.sc (.int .i64 t), .sc (.int .i64 a), .sc (.int .i64 ((i + 1 : Nat) : Int)), .ls n1 1 l1, .ls n2 1 l2] := ⟨_, _, _, _, rfl⟩
 rw [hD] at hN
 simp +contextual -implicitDefEqProofs only [show t * (i + 1) + a * ((i + 1) * (i + 1)) = fmBits t a (i + 1) from rfl, hcv, hpw, hk, eI, D.at, D.sub, D.isAg, List.map_nil, List.map_cons, go_sem, ↓reduceIte, Nat.reduceEqDiff, Nat.reduceLeDiff, Int.ofNat_lt, Int.natCast_nonneg]
 refine callQ_self (ds := [eG ((t : Int), (a : Int)), eI ((i + 1 : Nat) : Int), eI k]) (by rfl) hN ?_
 simp +contextual -implicitDefEqProofs only [D.put, modeOf, noPtrs, D.at, D.size, D.sizeL, beq_self_eq_true, D.isAg, List.map_nil, List.map_cons, List.length_cons, List.length_nil, bne, Bool.not_false, Bool.true_and, Bool.and_true, Bool.and_false, go_sem, ↓reduceIte, Nat.reduceEqDiff, Nat.reduceAdd, Nat.reduceLeDiff, Nat.reduceBEq, Nat.reduceLT]
 have hr0 := hc5 (numM t a (i + 1) k) (i + 1) (.mk ak av ann aks) hM hT.1
 rw [eE_mk, eM_num, hD] at hr0
 refine callQ_le (es := [.pt (.ag [.sc (.int .i64 t), .sc (.int .i64 a), .sc (.int .i64 ((i + 1 : Nat) : Int)), .ls n1 1 l1, .ls n2 1 l2]) 0, .pt (.ag [.sc (.int .i64 ak), .sc (.int .i64 av), .ls ann 3 (aks.map eE)]) 0]) rfl ⟨D.LeA.refl _, D.LeA.sub (sz := 3) (by show _ ≤ 6; omega) rfl (by omega) rfl, trivial⟩ hr0 ?_
 simp +contextual -implicitDefEqProofs only [List.map_nil, List.map_cons, bne, Bool.not_false, Bool.and_true, go_sem, ↓reduceIte, Nat.reduceEqDiff, Nat.reduceBEq, Nat.reduceLT]
 have hr3 := hc5 (numM t a (i + 1) k) (i + 1) (.mk bk bv bnn bks) hM hT.2
 rw [eE_mk, eM_num, hD] at hr3
 refine callQ_le (es := [.pt (.ag [.sc (.int .i64 t), .sc (.int .i64 a), .sc (.int .i64 ((i + 1 : Nat) : Int)), .ls n1 1 l1, .ls n2 1 l2]) 0, .pt (.ag [.sc (.int .i64 bk), .sc (.int .i64 bv), .ls bnn 3 (bks.map eE)]) 0]) rfl ⟨D.LeA.refl _, D.LeA.sub (sz := 3) (by show _ ≤ 6; omega) rfl (by omega) rfl, trivial⟩ hr3 ?_
 simp +contextual -implicitDefEqProofs only [List.map_nil, List.map_cons, bne, Bool.not_false, Bool.and_true, go_sem, ↓reduceIte, Nat.reduceEqDiff, Nat.reduceBEq]
 refine callQ_self (ds := [.ls (some false) 1 (rD (i + 1) (relE (numM t a (i + 1) k) (.mk ak av ann aks))), .ls (some false) 1 (rD (i + 1) (relE (numM t a (i + 1) k) (.mk bk bv bnn bks)))]) (by rfl) (rows_D hc6) ?_
 cases hh : eqT (i + 1) (relE (numM t a (i + 1) k) (.mk ak av ann aks)) (relE (numM t a (i + 1) k) (.mk bk bv bnn bks))
 ·have hit : fmHit t a (.mk ak av ann aks, .mk bk bv bnn bks) (i + 1) k = true := by simp only [fmHit, hh]; rfl
  rw [fm_hit hi hk hit hnk hn0]
  simp only []
  simp +contextual -implicitDefEqProofs only [D.put, modeOf, noPtrs, eB, D.at, D.size, D.sizeL, D.sub, beq_self_eq_true, D.isAg, List.length_cons, List.length_nil, Bool.not_false, Bool.true_and, Bool.and_true, Bool.and_false, go_sem, ↓reduceIte, Nat.reduceEqDiff, Nat.reduceAdd, Nat.reduceLeDiff, Nat.reduceLT]
  exact D.Le.of_eq (by rw [← hD, ← eM_num]; rfl)
 have hit : fmHit t a (.mk ak av ann aks, .mk bk bv bnn bks) (i + 1) k = false := by simp only [fmHit, hh]; rfl
 simp +contextual -implicitDefEqProofs only [eB, Bool.not_true, go_sem, ↓reduceIte, Nat.reduceEqDiff]
 refine ⟨k + 1, ⟨by omega, fun j hj => ?_⟩, by omega, ?_⟩
 ·rcases Nat.lt_succ_iff_lt_or_eq.1 hj with h | rfl
  ·exact hnk j h
  ·exact hit
 ·rw [wrap_i64 (by omega) (by omega)]
  exact Ent.to [45, 43, 10] (by simp only [go_sem, ↓reduceIte, Nat.reduceEqDiff, Nat.reduceBEq]; rfl) rfl (by simp) (by rfl) (by simp only [subEnv, go_sem, ↓reduceIte, Nat.reduceEqDiff] <;> simp)

def k_imFirst (f1 f2 f3 f4 f5 : Nat) : RC := (.seq (.reg false [⟨none, .box 3 2 (.t 0)⟩, ⟨none, .box 4 6 (.t 1)⟩, ⟨none, .zer 6 5 (.ag [(.sc (.int .i64 0)), (.sc (.int .i64 0)), (.sc (.int .i64 0)), (.ls (some true) 1 []), (.ls (some true) 1 [])])⟩, ⟨none, .mv 7 (.c (.sc (.int .i64 0)))⟩]) ((.seq ((.seq (.reg false [⟨none, .ld 11 true 2 (.t 3)⟩, ⟨none, .ld 12 true 6 (.t 4)⟩, ⟨none, .call (some 13) f1 [(.t 11), (.t 12)]⟩, ⟨none, .un 14 .not (.t 13)⟩]) (.cond (.t 14) ((.seq (.reg false [⟨none, .bld 15 (.ag [(.sc (.int .i64 0)), (.sc (.int .i64 0)), (.sc (.int .i64 0)), (.ls (some true) 1 []), (.ls (some true) 1 [])]) []⟩, ⟨none, .st 5 (.t 6) (.t 15)⟩, ⟨none, .mv 7 (.c (.sc (.int .i64 1)))⟩]) (.ret))) (.skip)))) ((.seq ((.seq (.reg false [⟨none, .mv 16 (.t 2)⟩, ⟨none, .call (some 17) f2 [(.t 16), (.c (.sc (.int .i64 1))), (.c (.sc (.int .i64 3)))]⟩, ⟨none, .un 18 .not (.t 17)⟩]) (.cond (.t 18) ((.seq (.reg false [⟨none, .bld 19 (.ag [(.sc (.int .i64 0)), (.sc (.int .i64 0)), (.sc (.int .i64 0)), (.ls (some true) 1 []), (.ls (some true) 1 [])]) []⟩, ⟨none, .st 5 (.t 6) (.t 19)⟩, ⟨none, .mv 7 (.c (.sc (.int .i64 2)))⟩]) (.ret))) (.skip)))) ((.seq ((.seq (.reg false [⟨none, .fa 20 0 (.t 3)⟩, ⟨none, .ld 21 false 1 (.t 20)⟩, ⟨none, .mv 22 (.t 2)⟩, ⟨none, .bin 23 .mul (.t 21) (.t 22)⟩, ⟨none, .fa 24 1 (.t 3)⟩, ⟨none, .ld 25 false 1 (.t 24)⟩, ⟨none, .mv 26 (.t 2)⟩, ⟨none, .bin 27 .mul (.t 25) (.t 26)⟩, ⟨none, .mv 28 (.t 2)⟩, ⟨none, .bin 29 .mul (.t 27) (.t 28)⟩, ⟨none, .bin 30 .add (.t 23) (.t 29)⟩, ⟨none, .bin 31 .gtr (.t 30) (.c (.sc (.int .i64 12)))⟩]) (.cond (.t 31) ((.seq (.reg false [⟨none, .bld 32 (.ag [(.sc (.int .i64 0)), (.sc (.int .i64 0)), (.sc (.int .i64 0)), (.ls (some true) 1 []), (.ls (some true) 1 [])]) []⟩, ⟨none, .st 5 (.t 6) (.t 32)⟩, ⟨none, .mv 7 (.c (.sc (.int .i64 3)))⟩]) (.ret))) (.skip)))) ((.seq ((.seq (.reg false [⟨none, .mv 8 (.c (.sc (.int .i64 1)))⟩]) (.blk 0 (.loop ((.seq ((.seq (.reg false [⟨none, .mv 33 (.t 8)⟩, ⟨none, .mv 34 (.t 2)⟩, ⟨none, .bin 35 .leq (.t 33) (.t 34)⟩]) (.cond (.t 35) (.skip) (.exit 0)))) ((.seq (.blk 1 ((.seq (.reg false [⟨none, .fa 38 0 (.t 3)⟩, ⟨none, .ld 39 false 1 (.t 38)⟩, ⟨none, .mv 40 (.t 8)⟩, ⟨none, .bin 41 .mul (.t 39) (.t 40)⟩, ⟨none, .fa 42 1 (.t 3)⟩, ⟨none, .ld 43 false 1 (.t 42)⟩, ⟨none, .mv 44 (.t 8)⟩, ⟨none, .bin 45 .mul (.t 43) (.t 44)⟩, ⟨none, .mv 46 (.t 8)⟩, ⟨none, .bin 47 .mul (.t 45) (.t 46)⟩, ⟨none, .bin 48 .add (.t 41) (.t 47)⟩, ⟨none, .bin 49 .shl (.c (.sc (.int .i64 1))) (.t 48)⟩, ⟨none, .mv 50 (.c (.sc (.int .i64 0)))⟩]) (.blk 2 (.loop ((.seq (.reg false [⟨none, .bin 51 .lss (.t 50) (.t 49)⟩]) ((.seq (.cond (.t 51) (.skip) (.exit 2)) ((.seq (.blk 3 ((.seq (.reg false [⟨none, .mv 52 (.t 50)⟩, ⟨none, .mv 9 (.t 52)⟩]) ((.seq (.reg false [⟨none, .ld 53 true 2 (.t 3)⟩, ⟨none, .mv 54 (.t 8)⟩, ⟨none, .mv 55 (.t 9)⟩, ⟨none, .call (some 56) f3 [(.t 53), (.t 54), (.t 55)]⟩, ⟨none, .zer 10 5 (.ag [(.sc (.int .i64 0)), (.sc (.int .i64 0)), (.sc (.int .i64 0)), (.ls (some true) 1 []), (.ls (some true) 1 [])])⟩, ⟨none, .st 5 (.t 10) (.t 56)⟩]) ((.seq (.reg true [⟨none, .ld 57 true 5 (.t 10)⟩, ⟨none, .fa 58 0 (.t 4)⟩, ⟨none, .ld 59 true 3 (.t 58)⟩, ⟨none, .call (some 60) f4 [(.t 57), (.t 59)]⟩, ⟨none, .ld 61 true 5 (.t 10)⟩, ⟨none, .fa 62 3 (.t 4)⟩, ⟨none, .ld 63 true 3 (.t 62)⟩, ⟨none, .call (some 64) f4 [(.t 61), (.t 63)]⟩, ⟨none, .call (some 65) f5 [(.t 60), (.t 64)]⟩, ⟨none, .un 66 .not (.t 65)⟩]) (.cond (.t 66) ((.seq (.reg false [⟨none, .ld 67 true 5 (.t 10)⟩, ⟨none, .st 5 (.t 6) (.t 67)⟩, ⟨none, .mv 7 (.c (.sc (.int .i64 0)))⟩]) (.ret))) (.skip))))))))) (.reg false [⟨none, .bin 68 .add (.t 50) (.c (.sc (.int .i64 1)))⟩, ⟨none, .mv 50 (.t 68)⟩])))))))))))) (.reg false [⟨none, .mv 36 (.t 8)⟩, ⟨none, .bin 37 .add (.t 36) (.c (.sc (.int .i64 1)))⟩, ⟨none, .mv 8 (.t 37)⟩]))))))))) ((.seq (.reg false [⟨none, .bld 69 (.ag [(.sc (.int .i64 0)), (.sc (.int .i64 0)), (.sc (.int .i64 0)), (.ls (some true) 1 []), (.ls (some true) 1 [])]) []⟩, ⟨none, .st 5 (.t 6) (.t 69)⟩, ⟨none, .mv 7 (.c (.sc (.int .i64 6)))⟩]) (.ret))))))))))))
def K_imFirst (P : Program) (fno : Nat) : Prop := ∀ (gs : Int × Int) (q : Eq2) (pts : Int), AF P fno [eG gs, eQ q, eI pts] (.tup ([.own (eM (fmR gs q pts).1), .own (eI (fmR gs q pts).2)]))
theorem a_imFirst {P : Program} (hm : P.follows .mixedOrders = true) {g f1 f2 f3 f4 f5 : Nat} (hr : resF P g = some (70, k_imFirst f1 f2 f3 f4 f5, [.c 6 5 true, .t 7])) (hc1 : K_imValidEquation P f1) (hc2 : K_within P f2) (hc3 : K_numbered P f3) (hc4 : K_relation P f4) (hc5 : K_sameRowsB P f5) : K_imFirst P g := by
 intro gs q pts
 obtain ⟨g1, g2⟩ := gs
 obtain ⟨qa, qb⟩ := q
 refine af_of_res hr hm rfl fun hb => ?_
 obtain ⟨ak, av, ann, aks, rfl⟩ := Ex.ex qa
 obtain ⟨bk, bv, bnn, bks, rfl⟩ := Ex.ex qb
 simp +contextual -implicitDefEqProofs only [k_imFirst, eM, eS, eI, eG, eQ, D.at, D.size, D.sizeL, D.sub, beq_self_eq_true, D.isAg, List.map_nil, List.map_cons, bne, Bool.not_false, Bool.and_true, go_sem, ↓reduceIte, Nat.reduceEqDiff, Nat.reduceAdd, Nat.reduceLeDiff, Nat.reduceBEq, Nat.reduceLT]
 refine callQ_self (ds := [eG (g1, g2), eQ (.mk ak av ann aks, .mk bk bv bnn bks)]) (by rfl) (hc1 (g1, g2) (.mk ak av ann aks, .mk bk bv bnn bks)) ?_
 cases hq : okQ (g1, g2) (.mk ak av ann aks, .mk bk bv bnn bks)
 ·rw [show fmR (g1, g2) (.mk ak av ann aks, .mk bk bv bnn bks) pts = (zMo, 1) by simp [fmR, hq]]
  simp +contextual -implicitDefEqProofs only [zMo, eB, D.at, D.size, D.sizeL, D.sub, beq_self_eq_true, D.isAg, List.map_nil, List.map_cons, List.length_cons, List.length_nil, bne, Bool.not_false, Bool.and_true, Bool.and_false, Bool.or_true, Bool.or_false, go_sem, ↓reduceIte, Nat.reduceEqDiff, Nat.reduceAdd, Nat.reduceLeDiff, Nat.reduceBEq, Nat.reduceLT]
 simp +contextual -implicitDefEqProofs only [eB, List.map_nil, List.map_cons, Bool.not_true, go_sem, ↓reduceIte, Nat.reduceEqDiff]
 refine callQ_self (ds := [eI pts, eI 1, eI 3]) (by rfl) (hc2 pts 1 3) ?_
 cases hin : isIn pts 1 3
 ·rw [show fmR (g1, g2) (.mk ak av ann aks, .mk bk bv bnn bks) pts = (zMo, 2) by simp [fmR, hq, hin]]
  simp +contextual -implicitDefEqProofs only [zMo, eB, D.at, D.size, D.sizeL, D.sub, beq_self_eq_true, D.isAg, List.map_nil, List.map_cons, List.length_cons, List.length_nil, bne, Bool.not_false, Bool.and_true, Bool.and_false, Bool.or_true, Bool.or_false, go_sem, ↓reduceIte, Nat.reduceEqDiff, Nat.reduceAdd, Nat.reduceLeDiff, Nat.reduceBEq, Nat.reduceLT]
 simp +contextual -implicitDefEqProofs only [eB, D.at, D.size, D.sizeL, D.sub, beq_self_eq_true, D.isAg, List.map_nil, List.map_cons, List.length_cons, List.length_nil, bne, Bool.not_true, Bool.and_true, Bool.and_false, Bool.or_true, Bool.or_false, go_sem, ↓reduceIte, Nat.reduceEqDiff, Nat.reduceAdd, Nat.reduceLeDiff, Nat.reduceBEq, Nat.reduceLT]
 have hT := okQ_tree hq
 have hg : 0 ≤ g1 ∧ g1 ≤ 3 ∧ 0 ≤ g2 ∧ g2 ≤ 4 := by
  have h := hq
  simp only [okQ, Bool.and_eq_true] at h
  have h := h.1
  simp only [okG, Bool.and_eq_true, isIn_iff'] at h
  omega
 obtain ⟨t, rfl⟩ : ∃ t : Nat, g1 = t := ⟨g1.toNat, by omega⟩
 obtain ⟨a, rfl⟩ : ∃ a : Nat, g2 = a := ⟨g2.toNat, by omega⟩
 have hpi := isIn_iff'.1 hin
 obtain ⟨p, rfl⟩ : ∃ p : Nat, pts = p := ⟨pts.toNat, by omega⟩
 have ht : t ≤ 3 := by omega
 have ha : a ≤ 4 := by omega
 have hp : p ≤ 3 := by omega
 have hfm : fmR ((t : Int), (a : Int)) (.mk ak av ann aks, .mk bk bv bnn bks) p = fmR2 t a (.mk ak av ann aks, .mk bk bv bnn bks) p := by simp [fmR, hq, hin]
 have hbb : ∀ p : Nat, p ≤ 3 → IntKind.i64.wrap ((t : Int) * (p : Int)) = ((t * p : Nat) : Int) ∧ IntKind.i64.wrap ((a : Int) * (p : Int)) = ((a * p : Nat) : Int) ∧ IntKind.i64.wrap (((a * p : Nat) : Int) * (p : Int)) = ((a * (p * p) : Nat) : Int) ∧ IntKind.i64.wrap (((t * p : Nat) : Int) + ((a * (p * p) : Nat) : Int)) = ((fmBits t a p : Nat) : Int) := by
  intro p hp
  have h1 : t * p ≤ 3 * 3 := Nat.mul_le_mul ht hp
  have h2 : p * p ≤ 3 * 3 := Nat.mul_le_mul hp hp
  have h3 : a * (p * p) ≤ 4 * (3 * 3) := Nat.mul_le_mul ha h2
  have h4 : a * p ≤ 4 * 3 := Nat.mul_le_mul ha hp
  refine ⟨?_, ?_, ?_, ?_⟩
  ·rw [← Int.natCast_mul]; exact wrap_i64 (by omega) (by omega)
  ·rw [← Int.natCast_mul]; exact wrap_i64 (by omega) (by omega)
  ·rw [← Int.natCast_mul, Nat.mul_assoc]; exact wrap_i64 (by omega) (by omega)
  ·rw [← Int.natCast_add]; exact wrap_i64 (by omega) (by omega)
 obtain ⟨e1, e2, e3, e4⟩ := hbb p hp
 cases h12 : decide (((fmBits t a p : Nat) : Int) > 12)
 case true =>
  have hgt : 12 < fmBits t a p := by have := of_decide_eq_true h12; omega
  have h12p := of_decide_eq_true h12
  rw [hfm, fmR2, if_pos hgt]
  simp +contextual -implicitDefEqProofs only [e1, e2, e3, e4, h12p, zMo, List.map_nil, go_sem]
 have hgt : ¬ 12 < fmBits t a p := by have := of_decide_eq_false h12; omega
 have h12p := of_decide_eq_false h12
 rw [hfm, fmR2, if_neg hgt]
 simp +contextual -implicitDefEqProofs only [e1, e2, e3, e4, h12p, go_sem]
 refine vc_onU (α := Nat) [7, 8, 9, 10, 33, 34, 35, 36, 37, 38, 39, 40, 41, 42, 43, 44, 45, 46, 47, 48, 49, 50, 51, 52, 53, 54, 55, 56, 57, 58, 59, 60, 61, 62, 63, 64, 65, 66, 67, 68] (fun i => [(8, .im none (.sc (.int .i64 ((i + 1 : Nat) : Int))))]) (fun i => [(6, .ar true (some false) 5 [.ag [.sc (.int .i64 0), .sc (.int .i64 0), .sc (.int .i64 0), .ls (some true) 1 [], .ls (some true) 1 []]]), (4, .ar false (some false) 6 [.ag [.sc (.int .i64 (Ex.mk ak av ann aks).k), .sc (.int .i64 (Ex.mk ak av ann aks).n), .ls (Ex.mk ak av ann aks).nn 3 ((Ex.mk ak av ann aks).ks.map eE), .sc (.int .i64 (Ex.mk bk bv bnn bks).k), .sc (.int .i64 (Ex.mk bk bv bnn bks).n), .ls (Ex.mk bk bv bnn bks).nn 3 ((Ex.mk bk bv bnn bks).ks.map eE)]]), (3, .ar false (some false) 2 [.ag [.sc (.int .i64 t), .sc (.int .i64 a)]])]) (fun i => i ≤ p ∧ ∀ j, j < i → fmRow t a (.mk ak av ann aks, .mk bk bv bnn bks) (j + 1) = none) (fun i => p - i) 0 (Ent.to [] (by simp only [go_sem]; rfl) rfl (by simp) (by rfl) (by simp only [subEnv, go_sem, ↓reduceIte, Nat.reduceEqDiff, keep, memN] <;> simp)) ⟨Nat.zero_le _, fun j hj => absurd hj (Nat.not_lt_zero j)⟩ ?_
 rintro i ⟨hi0, hn0⟩
 by_cases hi : i < p
 case neg =>
  obtain rfl : i = p := by omega
  have hle : decide (((i + 1 : Nat) : Int) ≤ (i : Int)) = false := by simp; omega
  rw [fm_none hn0]
  simp +contextual -implicitDefEqProofs only [hle, zMo, D.at, D.size, D.sizeL, D.sub, beq_self_eq_true, D.isAg, List.map_nil, List.map_cons, List.length_cons, List.length_nil, bne, Bool.and_true, Bool.and_false, Bool.or_true, Bool.or_false, go_sem, ↓reduceIte, Nat.reduceEqDiff, Nat.reduceAdd, Nat.reduceLeDiff, Nat.reduceBEq, Nat.reduceLT]
 have hle : decide (((i + 1 : Nat) : Int) ≤ (p : Int)) = true := by simp; omega
 have hbl := fmBits_le (t := t) (a := a) (show i + 1 ≤ p by omega)
 have hpw := pw_eq (b := fmBits t a (i + 1)) (by omega)
 have h2b : 2 ^ fmBits t a (i + 1) ≤ 2 ^ 12 := Nat.pow_le_pow_right (by decide) (by omega)
 obtain ⟨f1, f2, f3, f4⟩ := hbb (i + 1) (by omega)
 simp +contextual -implicitDefEqProofs only [hle, f1, f2, f3, f4, hpw, D.at, D.sub, D.isAg, go_sem, ↓reduceIte, Nat.reduceEqDiff, Nat.reduceAdd, Nat.reduceLeDiff, Nat.reduceLT, Int.natCast_nonneg]
 refine vc_onU (α := Nat) [7, 9, 10, 50, 51, 52, 53, 54, 55, 56, 57, 58, 59, 60, 61, 62, 63, 64, 65, 66, 67, 68] (fun k => [(50, .im none (.sc (.int .i64 k)))]) (fun k => [(6, .ar true (some false) 5 [.ag [.sc (.int .i64 0), .sc (.int .i64 0), .sc (.int .i64 0), .ls (some true) 1 [], .ls (some true) 1 []]]), (4, .ar false (some false) 6 [.ag [.sc (.int .i64 (Ex.mk ak av ann aks).k), .sc (.int .i64 (Ex.mk ak av ann aks).n), .ls (Ex.mk ak av ann aks).nn 3 ((Ex.mk ak av ann aks).ks.map eE), .sc (.int .i64 (Ex.mk bk bv bnn bks).k), .sc (.int .i64 (Ex.mk bk bv bnn bks).n), .ls (Ex.mk bk bv bnn bks).nn 3 ((Ex.mk bk bv bnn bks).ks.map eE)]]), (3, .ar false (some false) 2 [.ag [.sc (.int .i64 t), .sc (.int .i64 a)]])]) (fun k => k ≤ 2 ^ fmBits t a (i + 1) ∧ ∀ j, j < k → fmHit t a (.mk ak av ann aks, .mk bk bv bnn bks) (i + 1) j = false) (fun k => 2 ^ fmBits t a (i + 1) - k) 0 (Ent.to [] (by simp only [go_sem]; rfl) rfl (by simp) (by rfl) (by simp only [subEnv, go_sem, ↓reduceIte, Nat.reduceEqDiff, keep, memN] <;> simp)) ⟨Nat.zero_le _, fun j hj => absurd hj (Nat.not_lt_zero j)⟩ ?_
 rintro k ⟨hk0, hnk⟩
 by_cases hk : k < 2 ^ fmBits t a (i + 1)
 case neg =>
  obtain rfl : k = 2 ^ fmBits t a (i + 1) := by omega
  simp +contextual -implicitDefEqProofs only [Nat.lt_irrefl, go_sem, ↓reduceIte, Nat.reduceEqDiff, Int.ofNat_lt]
  refine ⟨i + 1, ⟨by omega, fun j hj => ?_⟩, by omega, ?_⟩
  ·rcases Nat.lt_succ_iff_lt_or_eq.1 hj with h | rfl
   ·exact hn0 j h
   ·exact range_find_none hnk
  ·rw [wrap_i64 (by omega) (by omega)]
   exact Ent.to [] (by simp only [go_sem]; rfl) rfl (by simp) (by rfl) (by simp only [subEnv, go_sem, ↓reduceIte, Nat.reduceEqDiff] <;> simp)
 have hM : MoOk (numM t a (i + 1) k) (i + 1) := num_ok ht ha (by omega) (by omega)
 have hN := hc3 t a (i + 1) k ht ha (by omega) (by omega) (by omega)
 obtain ⟨n1, l1, n2, l2, hD⟩ : ∃ n1 l1 n2 l2, numD t a (i + 1) k = .ag [.sc (.int .i64 t), .sc (.int .i64 a), .sc (.int .i64 ((i + 1 : Nat) : Int)), .ls n1 1 l1, .ls n2 1 l2] := ⟨_, _, _, _, rfl⟩
 rw [hD] at hN
 simp +contextual -implicitDefEqProofs only [hk, D.at, D.sub, D.isAg, List.map_nil, List.map_cons, go_sem, ↓reduceIte, Nat.reduceEqDiff, Nat.reduceLeDiff, Int.ofNat_lt]
 refine callQ_self (ds := [eG ((t : Int), (a : Int)), eI ((i + 1 : Nat) : Int), eI k]) (by rfl) hN ?_
 simp +contextual -implicitDefEqProofs only [D.put, modeOf, noPtrs, D.at, D.size, D.sizeL, D.sub, beq_self_eq_true, D.isAg, List.map_nil, List.map_cons, List.length_cons, List.length_nil, bne, Bool.not_false, Bool.true_and, Bool.and_true, Bool.and_false, go_sem, ↓reduceIte, Nat.reduceEqDiff, Nat.reduceAdd, Nat.reduceLeDiff, Nat.reduceBEq, Nat.reduceLT]
 have hr0 := hc4 (numM t a (i + 1) k) (i + 1) (.mk ak av ann aks) hM hT.1
 rw [eE_mk, eM_num, hD] at hr0
 refine callQ_self (ds := [.ag [.sc (.int .i64 t), .sc (.int .i64 a), .sc (.int .i64 ((i + 1 : Nat) : Int)), .ls n1 1 l1, .ls n2 1 l2], .ag [.sc (.int .i64 ak), .sc (.int .i64 av), .ls ann 3 (aks.map eE)]]) (by rfl) hr0 ?_
 simp +contextual -implicitDefEqProofs only [D.at, D.sub, D.isAg, List.map_nil, List.map_cons, bne, Bool.not_false, Bool.and_true, Bool.and_false, go_sem, ↓reduceIte, Nat.reduceEqDiff, Nat.reduceAdd, Nat.reduceLeDiff, Nat.reduceBEq, Nat.reduceLT]
 have hr3 := hc4 (numM t a (i + 1) k) (i + 1) (.mk bk bv bnn bks) hM hT.2
 rw [eE_mk, eM_num, hD] at hr3
 refine callQ_self (ds := [.ag [.sc (.int .i64 t), .sc (.int .i64 a), .sc (.int .i64 ((i + 1 : Nat) : Int)), .ls n1 1 l1, .ls n2 1 l2], .ag [.sc (.int .i64 bk), .sc (.int .i64 bv), .ls bnn 3 (bks.map eE)]]) (by rfl) hr3 ?_
 simp +contextual -implicitDefEqProofs only [List.map_nil, List.map_cons, bne, Bool.not_false, Bool.and_true, go_sem, ↓reduceIte, Nat.reduceEqDiff, Nat.reduceBEq]
 refine callQ_self (ds := [.ls (some false) 1 (rD (i + 1) (relE (numM t a (i + 1) k) (.mk ak av ann aks))), .ls (some false) 1 (rD (i + 1) (relE (numM t a (i + 1) k) (.mk bk bv bnn bks)))]) (by rfl) (rowsI_D hc5) ?_
 cases hh : eqT (i + 1) (relE (numM t a (i + 1) k) (.mk ak av ann aks)) (relE (numM t a (i + 1) k) (.mk bk bv bnn bks))
 ·have hit : fmHit t a (.mk ak av ann aks, .mk bk bv bnn bks) (i + 1) k = true := by simp only [fmHit, hh]; rfl
  rw [fm_hit hi hk hit hnk hn0]
  simp only []
  simp +contextual -implicitDefEqProofs only [D.put, modeOf, noPtrs, eB, D.at, D.size, D.sizeL, D.sub, beq_self_eq_true, D.isAg, List.length_cons, List.length_nil, Bool.not_false, Bool.true_and, Bool.and_true, Bool.and_false, go_sem, ↓reduceIte, Nat.reduceEqDiff, Nat.reduceAdd, Nat.reduceLeDiff, Nat.reduceLT]
  exact D.Le.of_eq (by rw [← hD, ← eM_num]; rfl)
 have hit : fmHit t a (.mk ak av ann aks, .mk bk bv bnn bks) (i + 1) k = false := by simp only [fmHit, hh]; rfl
 simp +contextual -implicitDefEqProofs only [eB, Bool.not_true, go_sem, ↓reduceIte, Nat.reduceEqDiff]
 refine ⟨k + 1, ⟨by omega, fun j hj => ?_⟩, by omega, ?_⟩
 ·rcases Nat.lt_succ_iff_lt_or_eq.1 hj with h | rfl
  ·exact hnk j h
  ·exact hit
 ·rw [wrap_i64 (by omega) (by omega)]
  exact Ent.to [60, 64, 10] (by simp only [go_sem, ↓reduceIte, Nat.reduceEqDiff, Nat.reduceBEq]; rfl) rfl (by simp) (by rfl) (by simp only [subEnv, go_sem, ↓reduceIte, Nat.reduceEqDiff] <;> simp)
end Go.Ax
