/- Contracts of functions of the seat, proved over the engine. No condition. -/
import Derived.Test.YtohakobkclkniaaDoorX11
set_option linter.unusedSimpArgs false
set_option linter.unusedVariables false
set_option linter.unnecessarySimpa false
namespace Go.Ax
set_option linter.unusedSimpArgs false
set_option maxRecDepth 20000
set_option maxHeartbeats 4000000
def kidsP (k : Int) : Int := if k = 1 then 0 else if k = 2 then 0 else if k = 3 then 0 else if k = 4 then 0 else if k = 5 then 2 else if k = 6 then 2 else if k = 7 then 1 else -1
def asksP (k : Int) : Bool := (k == 4) || ((k == 6) || (k == 7))
def numP (g : Int × Int) (k n : Int) : Bool := ((k == 3) && isIn n 0 (IntKind.i64.wrap (g.2 - 1))) || (!(k == 3) && (n == 0))
def cP (g : Int × Int) (k : Int) (c : Ex) : Bool := (asksP k && condOk g c) || (!asksP k && noneE c)
def formP (g : Int × Int) (k n : Int) (c : Ex) (ks : List Pg) : Bool := (kidsP k == ks.length) && (numP g k n && cP g k c)
mutual
def sizeP : Pg → Nat
 | .mk _ _ _ _ ks => 1 + sizePs ks
def sizePs : List Pg → Nat
 | [] => 0
 | e :: es => sizeP e + sizePs es
end
theorem sizeP_mk (k n : Int) (c : Ex) (nn : Option Bool) (ks : List Pg) : sizeP (.mk k n c nn ks) = 1 + sizePs ks := by rw [sizeP]
mutual
def depthP : Pg → Nat
 | .mk _ _ _ _ ks => 1 + depthPs ks
def depthPs : List Pg → Nat
 | [] => 0
 | e :: es => max (depthP e) (depthPs es)
end
theorem depthP_mk (k n : Int) (c : Ex) (nn : Option Bool) (ks : List Pg) : depthP (.mk k n c nn ks) = 1 + depthPs ks := by rw [depthP]
mutual
def treeP (g : Int × Int) : Pg → Bool
 | .mk k n c _ ks => formP g k n c ks && treePs g ks
def treePs (g : Int × Int) : List Pg → Bool
 | [] => true
 | e :: es => treeP g e && treePs g es
end
theorem treePs_eq (g : Int × Int) : ∀ ks : List Pg, treePs g ks = ks.all (treeP g)
 | [] => rfl
 | e :: es => by simp [treePs, treePs_eq g es]
theorem treeP_mk (g : Int × Int) (k n : Int) (c : Ex) (nn : Option Bool) (ks : List Pg) : treeP g (.mk k n c nn ks) = (formP g k n c ks && ks.all (treeP g)) := by rw [treeP, treePs_eq]
mutual
def shP (g : Int × Int) : Pg → Int → Int → Option Int
 | .mk k n c _ ks => fun N d => if N = 0 ∨ d = 0 ∨ formP g k n c ks = false then none else shPs g ks (N - 1) (d - 1)
def shPs (g : Int × Int) : List Pg → Int → Int → Option Int
 | [] => fun N _ => some N
 | e :: es => fun N d => match shP g e N d with | none => none | some m => shPs g es m d
end
theorem shP_mk (g : Int × Int) (k n : Int) (c : Ex) (nn : Option Bool) (ks : List Pg) (N d : Int) : shP g (.mk k n c nn ks) N d = if N = 0 ∨ d = 0 ∨ formP g k n c ks = false then none else shPs g ks (N - 1) (d - 1) := by rw [shP]

theorem shP_iff (g : Int × Int) : ∀ (e : Pg) (N d : Int), 0 ≤ N → 0 ≤ d → shP g e N d = ok3 (treeP g e) (sizeP e) N (depthP e) d :=
 Pg.ind fun k n c nn ks ih N d hN hd => by
  have hs : ∀ (l : List Pg), (∀ e ∈ l, ∀ N d : Int, 0 ≤ N → 0 ≤ d → shP g e N d = ok3 (treeP g e) (sizeP e) N (depthP e) d) → ∀ N d : Int, 0 ≤ N → 0 ≤ d →
    shPs g l N d = ok3 (l.all (treeP g)) (sizePs l) N (depthPs l) d := by
   intro l
   induction l with
   | nil => intro _ N d h1 h2; simp [ok3, shPs, sizePs, depthPs, h1, h2]
   | cons e l ihl =>
    intro hl N d h1 h2
    simp only [shPs, hl e (by simp) N d h1 h2, List.all_cons, sizePs, depthPs]
    unfold ok3
    by_cases hc : treeP g e = true ∧ (sizeP e : Int) ≤ N ∧ (depthP e : Int) ≤ d
    ·rw [if_pos hc]
     simp only
     rw [ihl (fun x hx => hl x (by simp [hx])) (N - sizeP e) d (by omega) h2]
     unfold ok3
     by_cases hc2 : l.all (treeP g) = true ∧ (sizePs l : Int) ≤ N - sizeP e ∧ (depthPs l : Int) ≤ d
     ·rw [if_pos hc2]
      split
      ·congr 1
       omega
      ·next hne => exact absurd ⟨by simp [hc.1, hc2.1], by omega, by omega⟩ hne
     ·rw [if_neg hc2, if_neg]
      rintro ⟨a, b, c⟩
      simp only [Bool.and_eq_true] at a
      exact hc2 ⟨a.2, by omega, by omega⟩
    ·rw [if_neg hc, if_neg]
     rintro ⟨a, b, c⟩
     simp only [Bool.and_eq_true] at a
     exact hc ⟨a.1, by omega, by omega⟩
  rw [shP_mk, treeP_mk, sizeP_mk, depthP_mk]
  unfold ok3
  by_cases h0 : N = 0 ∨ d = 0 ∨ formP g k n c ks = false
  ·rw [if_pos h0, if_neg]
   rintro ⟨a, b, c⟩
   simp only [Bool.and_eq_true] at a
   rcases h0 with h0 | h0 | h0
   ·omega
   ·omega
   ·rw [a.1] at h0; cases h0
  ·rw [if_neg h0, hs ks ih (N - 1) (d - 1) (by omega) (by omega)]
   unfold ok3
   have hf : formP g k n c ks = true := by
    cases h : formP g k n c ks
    ·exact absurd (.inr (.inr h)) h0
    ·rfl
   rw [hf, Bool.true_and]
   by_cases hc : ks.all (treeP g) = true ∧ (sizePs ks : Int) ≤ N - 1 ∧ (depthPs ks : Int) ≤ d - 1
   ·rw [if_pos hc]
    split
    ·congr 1
     omega
    ·next hne => exact absurd ⟨hc.1, by omega, by omega⟩ hne
   ·rw [if_neg hc, if_neg]
    rintro ⟨a, b, c⟩
    exact hc ⟨a, by omega, by omega⟩
def okP (g : Int × Int) (e : Pg) : Bool := decide (sizeP e ≤ 60) && (decide (depthP e ≤ 20) && treeP g e)
mutual
def leftP : Pg → Int → Int
 | .mk _ _ _ _ ks => fun l => leftPs ks (l - 1)
def leftPs : List Pg → Int → Int
 | [] => fun l => l
 | e :: es => fun l => if l < 0 then l else leftPs es (leftP e l)
end
theorem leftP_mk (k n : Int) (c : Ex) (nn : Option Bool) (ks : List Pg) (l : Int) : leftP (.mk k n c nn ks) l = leftPs ks (l - 1) := by rw [leftP]
theorem leftP_in : ∀ (e : Pg) (l : Int), 0 ≤ l → -1 ≤ leftP e l ∧ leftP e l ≤ l - 1 ∧ (0 ≤ leftP e l ↔ (sizeP e : Int) ≤ l) ∧ (0 ≤ leftP e l → leftP e l = l - sizeP e) :=
 Pg.ind fun k n c nn ks ih l h1 => by
  have hs : ∀ (q : List Pg), (∀ e ∈ q, ∀ (l : Int), 0 ≤ l → -1 ≤ leftP e l ∧ leftP e l ≤ l - 1 ∧ (0 ≤ leftP e l ↔ (sizeP e : Int) ≤ l) ∧ (0 ≤ leftP e l → leftP e l = l - sizeP e)) → ∀ l : Int, -1 ≤ l →
    -1 ≤ leftPs q l ∧ leftPs q l ≤ l ∧ (0 ≤ leftPs q l ↔ (sizePs q : Int) ≤ l) ∧ (0 ≤ leftPs q l → leftPs q l = l - sizePs q) := by
   intro q
   induction q with
   | nil => intro _ l h; simp [leftPs, sizePs]; omega
   | cons e q ihq =>
    intro hq l h
    simp only [leftPs, sizePs]
    by_cases hl : l < 0
    ·rw [if_pos hl]
     refine ⟨h, Int.le_refl _, ?_, ?_⟩ <;> omega
    ·rw [if_neg hl]
     have a := hq e (by simp) l (by omega)
     have b := ihq (fun x hx => hq x (by simp [hx])) (leftP e l) a.1
     refine ⟨b.1, by omega, ?_, ?_⟩
     ·constructor
      ·intro h0
       have := b.2.2.1.1 h0
       have h5 : 0 ≤ leftP e l := by omega
       have := a.2.2.2 h5
       omega
      ·intro h0
       have h5 : 0 ≤ leftP e l := a.2.2.1.2 (by omega)
       have := a.2.2.2 h5
       exact b.2.2.1.2 (by omega)
     ·intro h0
      have h3 := b.2.2.2 h0
      have := b.2.2.1.1 h0
      have h5 : 0 ≤ leftP e l := by omega
      have := a.2.2.2 h5
      omega
  have := hs ks ih (l - 1) (by omega)
  rw [leftP_mk, sizeP_mk]
  refine ⟨this.1, this.2.1, ?_, ?_⟩
  ·rw [this.2.2.1]; omega
  ·intro h0; rw [this.2.2.2 h0]; omega
theorem shP_some {g : Int × Int} {e : Pg} {N d m : Int} (hN : 0 ≤ N) (hd : 0 ≤ d) (h : shP g e N d = some m) : 0 ≤ m ∧ m ≤ N := by
 rw [shP_iff g e N d hN hd] at h
 unfold ok3 at h
 split at h
 ·next hc => injection h with h; omega
 ·cases h
theorem shPs_step {g : Int × Int} {ks : List Pg} {i : Nat} (hi : i < ks.length) (m d : Int) : shPs g (ks.drop i) m d = match shP g ks[i] m d with | none => none | some q => shPs g (ks.drop (i + 1)) q d := by
 rw [List.drop_eq_getElem_cons hi, shPs]
 first | done | rfl
theorem shP_ok (g : Int × Int) (e : Pg) : (shP g e 60 20).isSome = okP g e := by
 rw [shP_iff g e 60 20 (by omega) (by omega)]
 unfold ok3 okP
 by_cases h1 : sizeP e ≤ 60 <;> by_cases h2 : depthP e ≤ 20 <;> cases h3 : treeP g e
 all_goals simp [h1, h2]
 all_goals omega
theorem leftPs_neg {q : List Pg} {l : Int} (h : l < 0) : leftPs q l = l := by
 cases q with
 | nil => rfl
 | cons e q => simp [leftPs, h]
theorem leftPs_step {ks : List Pg} {i : Nat} (hi : i < ks.length) {m : Int} (h : ¬ m < 0) : leftPs (ks.drop i) m = leftPs (ks.drop (i + 1)) (leftP ks[i] m) := by
 rw [List.drop_eq_getElem_cons hi, leftPs]
 simp [h]
theorem sizeP_mem : ∀ {ks : List Pg} {e : Pg}, e ∈ ks → sizeP e ≤ sizePs ks
 | x :: ks, e, h => by
  rcases List.mem_cons.1 h with rfl | h
  ·simp [sizePs]
  ·have := sizeP_mem h; simp only [sizePs]; omega
theorem depthP_le : ∀ e : Pg, depthP e ≤ sizeP e :=
 Pg.ind fun k n c nn ks ih => by
  rw [depthP_mk, sizeP_mk]
  have : ∀ q : List Pg, (∀ e ∈ q, depthP e ≤ sizeP e) → depthPs q ≤ sizePs q := by
   intro q
   induction q with
   | nil => intro _; simp [depthPs]
   | cons e q ihq => intro h; have := ihq fun x hx => h x (by simp [hx]); have := h e (by simp); simp only [depthPs, sizePs]; omega
  have := this ks ih
  omega
theorem depthPs_step {ks : List Pg} {i : Nat} (hi : i < ks.length) : depthPs (ks.drop i) = max (depthP ks[i]) (depthPs (ks.drop (i + 1))) := by
 rw [List.drop_eq_getElem_cons hi, depthPs]

def k_progForm : RC := (.seq (.reg false [⟨none, .mv 2 (.c (.sc (.int .i64 0)))⟩, ⟨none, .mv 3 (.c (.sc (.bool false)))⟩]) ((.seq ((.seq (.reg false [⟨none, .mv 4 (.t 0)⟩]) (.blk 0 ((.seq ((.seq (.reg false [⟨none, .bin 6 .eql (.t 4) (.c (.sc (.int .i64 1)))⟩, ⟨none, .mv 5 (.t 6)⟩]) (.cond (.t 5) (.skip) ((.seq (.reg false [⟨none, .bin 7 .eql (.t 4) (.c (.sc (.int .i64 2)))⟩, ⟨none, .mv 5 (.t 7)⟩]) (.cond (.t 5) (.skip) (.reg false [⟨none, .bin 8 .eql (.t 4) (.c (.sc (.int .i64 3)))⟩, ⟨none, .mv 5 (.t 8)⟩]))))))) (.cond (.t 5) ((.seq (.reg false [⟨none, .mv 2 (.c (.sc (.int .i64 0)))⟩, ⟨none, .mv 3 (.c (.sc (.bool false)))⟩]) (.ret))) ((.seq (.reg false [⟨none, .bin 10 .eql (.t 4) (.c (.sc (.int .i64 4)))⟩, ⟨none, .mv 9 (.t 10)⟩]) (.cond (.t 9) ((.seq (.reg false [⟨none, .mv 2 (.c (.sc (.int .i64 0)))⟩, ⟨none, .mv 3 (.c (.sc (.bool true)))⟩]) (.ret))) ((.seq (.reg false [⟨none, .bin 12 .eql (.t 4) (.c (.sc (.int .i64 5)))⟩, ⟨none, .mv 11 (.t 12)⟩]) (.cond (.t 11) ((.seq (.reg false [⟨none, .mv 2 (.c (.sc (.int .i64 2)))⟩, ⟨none, .mv 3 (.c (.sc (.bool false)))⟩]) (.ret))) ((.seq (.reg false [⟨none, .bin 14 .eql (.t 4) (.c (.sc (.int .i64 6)))⟩, ⟨none, .mv 13 (.t 14)⟩]) (.cond (.t 13) ((.seq (.reg false [⟨none, .mv 2 (.c (.sc (.int .i64 2)))⟩, ⟨none, .mv 3 (.c (.sc (.bool true)))⟩]) (.ret))) ((.seq (.reg false [⟨none, .bin 16 .eql (.t 4) (.c (.sc (.int .i64 7)))⟩, ⟨none, .mv 15 (.t 16)⟩]) (.cond (.t 15) ((.seq (.reg false [⟨none, .mv 2 (.c (.sc (.int .i64 1)))⟩, ⟨none, .mv 3 (.c (.sc (.bool true)))⟩]) (.ret))) (.skip))))))))))))))))))) ((.seq (.reg false [⟨none, .mv 2 (.c (.sc (.int .i64 (-1))))⟩, ⟨none, .mv 3 (.c (.sc (.bool false)))⟩]) (.ret))))))
def K_progForm (P : Program) (fno : Nat) : Prop := ∀ (k : Int), AF P fno [eI k] (.tup ([.own (eI (kidsP k)), .own (eB (asksP k))]))
theorem a_progForm {P : Program} (hm : P.follows .mixedOrders = true) {g : Nat} (hr : resF P g = some (17, k_progForm, [.t 2, .t 3])) : K_progForm P g := by
 intro k
 refine af_of_res hr hm rfl fun hb => ?_
 by_cases c1 : k = 1
 ·subst c1
  simp +contextual -implicitDefEqProofs only [k_progForm, Int.reduceBEq, beq_self_eq_true, go_sem, eI, eB, ↓reduceIte, Nat.reduceEqDiff, Nat.reduceAdd, Nat.reduceLeDiff, Nat.reduceMul, Nat.reduceBEq, Nat.reduceBneDiff, Nat.reduceLT, Nat.reduceSub]
  try exact ⟨D.Le.sc_eq (congrArg (Value.int .i64) (by decide)), D.Le.sc_eq (congrArg Value.bool (by decide))⟩
 have b1 : (k == 1) = false := by simpa using c1
 by_cases c2 : k = 2
 ·subst c2
  simp +contextual -implicitDefEqProofs only [k_progForm, Int.reduceBEq, beq_self_eq_true, go_sem, eI, eB, ↓reduceIte, Nat.reduceEqDiff, Nat.reduceAdd, Nat.reduceLeDiff, Nat.reduceMul, Nat.reduceBEq, Nat.reduceBneDiff, Nat.reduceLT, Nat.reduceSub]
  try exact ⟨D.Le.sc_eq (congrArg (Value.int .i64) (by decide)), D.Le.sc_eq (congrArg Value.bool (by decide))⟩
 have b2 : (k == 2) = false := by simpa using c2
 by_cases c3 : k = 3
 ·subst c3
  simp +contextual -implicitDefEqProofs only [k_progForm, Int.reduceBEq, beq_self_eq_true, go_sem, eI, eB, ↓reduceIte, Nat.reduceEqDiff, Nat.reduceAdd, Nat.reduceLeDiff, Nat.reduceMul, Nat.reduceBEq, Nat.reduceBneDiff, Nat.reduceLT, Nat.reduceSub]
  try exact ⟨D.Le.sc_eq (congrArg (Value.int .i64) (by decide)), D.Le.sc_eq (congrArg Value.bool (by decide))⟩
 have b3 : (k == 3) = false := by simpa using c3
 by_cases c4 : k = 4
 ·subst c4
  simp +contextual -implicitDefEqProofs only [k_progForm, Int.reduceBEq, beq_self_eq_true, go_sem, eI, eB, ↓reduceIte, Nat.reduceEqDiff, Nat.reduceAdd, Nat.reduceLeDiff, Nat.reduceMul, Nat.reduceBEq, Nat.reduceBneDiff, Nat.reduceLT, Nat.reduceSub]
  try exact ⟨D.Le.sc_eq (congrArg (Value.int .i64) (by decide)), D.Le.sc_eq (congrArg Value.bool (by decide))⟩
 have b4 : (k == 4) = false := by simpa using c4
 by_cases c5 : k = 5
 ·subst c5
  simp +contextual -implicitDefEqProofs only [k_progForm, Int.reduceBEq, beq_self_eq_true, go_sem, eI, eB, ↓reduceIte, Nat.reduceEqDiff, Nat.reduceAdd, Nat.reduceLeDiff, Nat.reduceMul, Nat.reduceBEq, Nat.reduceBneDiff, Nat.reduceLT, Nat.reduceSub]
  try exact ⟨D.Le.sc_eq (congrArg (Value.int .i64) (by decide)), D.Le.sc_eq (congrArg Value.bool (by decide))⟩
 have b5 : (k == 5) = false := by simpa using c5
 by_cases c6 : k = 6
 ·subst c6
  simp +contextual -implicitDefEqProofs only [k_progForm, Int.reduceBEq, beq_self_eq_true, go_sem, eI, eB, ↓reduceIte, Nat.reduceEqDiff, Nat.reduceAdd, Nat.reduceLeDiff, Nat.reduceMul, Nat.reduceBEq, Nat.reduceBneDiff, Nat.reduceLT, Nat.reduceSub]
  try exact ⟨D.Le.sc_eq (congrArg (Value.int .i64) (by decide)), D.Le.sc_eq (congrArg Value.bool (by decide))⟩
 have b6 : (k == 6) = false := by simpa using c6
 by_cases c7 : k = 7
 ·subst c7
  simp +contextual -implicitDefEqProofs only [k_progForm, Int.reduceBEq, beq_self_eq_true, go_sem, eI, eB, ↓reduceIte, Nat.reduceEqDiff, Nat.reduceAdd, Nat.reduceLeDiff, Nat.reduceMul, Nat.reduceBEq, Nat.reduceBneDiff, Nat.reduceLT, Nat.reduceSub]
  try exact ⟨D.Le.sc_eq (congrArg (Value.int .i64) (by decide)), D.Le.sc_eq (congrArg Value.bool (by decide))⟩
 have b7 : (k == 7) = false := by simpa using c7
 simp +contextual -implicitDefEqProofs only [k_progForm, b1, b2, b3, b4, b5, b6, b7, go_sem, eI, eB, ↓reduceIte, Nat.reduceEqDiff, Nat.reduceAdd, Nat.reduceLeDiff, Nat.reduceMul, Nat.reduceBEq, Nat.reduceBneDiff, Nat.reduceLT, Nat.reduceSub]
 exact ⟨D.Le.sc_eq (by simp [kidsP, c1, c2, c3, c4, c5, c6, c7]), D.Le.sc_eq (by simp [asksP, c1, c2, c3, c4, c5, c6, c7])⟩

def k_l06Kids : RC := (.seq (.reg false [⟨none, .mv 2 (.c (.sc (.int .i64 0)))⟩]) ((.seq ((.seq (.reg false [⟨none, .mv 3 (.t 0)⟩]) (.blk 0 ((.seq ((.seq (.reg false [⟨none, .bin 5 .eql (.t 3) (.c (.sc (.int .i64 1)))⟩, ⟨none, .mv 4 (.t 5)⟩]) (.cond (.t 4) (.skip) ((.seq (.reg false [⟨none, .bin 6 .eql (.t 3) (.c (.sc (.int .i64 2)))⟩, ⟨none, .mv 4 (.t 6)⟩]) (.cond (.t 4) (.skip) ((.seq (.reg false [⟨none, .bin 7 .eql (.t 3) (.c (.sc (.int .i64 3)))⟩, ⟨none, .mv 4 (.t 7)⟩]) (.cond (.t 4) (.skip) (.reg false [⟨none, .bin 8 .eql (.t 3) (.c (.sc (.int .i64 4)))⟩, ⟨none, .mv 4 (.t 8)⟩])))))))))) (.cond (.t 4) ((.seq (.reg false [⟨none, .mv 2 (.c (.sc (.int .i64 0)))⟩]) (.ret))) ((.seq (.reg false [⟨none, .bin 10 .eql (.t 3) (.c (.sc (.int .i64 7)))⟩, ⟨none, .mv 9 (.t 10)⟩]) (.cond (.t 9) ((.seq (.reg false [⟨none, .mv 2 (.c (.sc (.int .i64 1)))⟩]) (.ret))) ((.seq ((.seq (.reg false [⟨none, .bin 12 .eql (.t 3) (.c (.sc (.int .i64 5)))⟩, ⟨none, .mv 11 (.t 12)⟩]) (.cond (.t 11) (.skip) (.reg false [⟨none, .bin 13 .eql (.t 3) (.c (.sc (.int .i64 6)))⟩, ⟨none, .mv 11 (.t 13)⟩])))) (.cond (.t 11) ((.seq (.reg false [⟨none, .mv 2 (.c (.sc (.int .i64 2)))⟩]) (.ret))) (.skip))))))))))))) ((.seq (.reg false [⟨none, .mv 2 (.c (.sc (.int .i64 (-1))))⟩]) (.ret))))))
def K_l06Kids (P : Program) (fno : Nat) : Prop := ∀ (k : Int), AF P fno [eI k] (.own (eI (kidsP k)))
theorem a_l06Kids {P : Program} (hm : P.follows .mixedOrders = true) {g : Nat} (hr : resF P g = some (14, k_l06Kids, [.t 2])) : K_l06Kids P g := by
 intro k
 refine af_of_res hr hm rfl fun hb => ?_
 by_cases c1 : k = 1
 ·subst c1
  simp +contextual -implicitDefEqProofs only [k_l06Kids, Int.reduceBEq, beq_self_eq_true, go_sem, eI, eB, ↓reduceIte, Nat.reduceEqDiff, Nat.reduceAdd, Nat.reduceLeDiff, Nat.reduceMul, Nat.reduceBEq, Nat.reduceBneDiff, Nat.reduceLT, Nat.reduceSub]
  try exact D.Le.sc_eq (congrArg (Value.int .i64) (by decide))
 have b1 : (k == 1) = false := by simpa using c1
 by_cases c2 : k = 2
 ·subst c2
  simp +contextual -implicitDefEqProofs only [k_l06Kids, Int.reduceBEq, beq_self_eq_true, go_sem, eI, eB, ↓reduceIte, Nat.reduceEqDiff, Nat.reduceAdd, Nat.reduceLeDiff, Nat.reduceMul, Nat.reduceBEq, Nat.reduceBneDiff, Nat.reduceLT, Nat.reduceSub]
  try exact D.Le.sc_eq (congrArg (Value.int .i64) (by decide))
 have b2 : (k == 2) = false := by simpa using c2
 by_cases c3 : k = 3
 ·subst c3
  simp +contextual -implicitDefEqProofs only [k_l06Kids, Int.reduceBEq, beq_self_eq_true, go_sem, eI, eB, ↓reduceIte, Nat.reduceEqDiff, Nat.reduceAdd, Nat.reduceLeDiff, Nat.reduceMul, Nat.reduceBEq, Nat.reduceBneDiff, Nat.reduceLT, Nat.reduceSub]
  try exact D.Le.sc_eq (congrArg (Value.int .i64) (by decide))
 have b3 : (k == 3) = false := by simpa using c3
 by_cases c4 : k = 4
 ·subst c4
  simp +contextual -implicitDefEqProofs only [k_l06Kids, Int.reduceBEq, beq_self_eq_true, go_sem, eI, eB, ↓reduceIte, Nat.reduceEqDiff, Nat.reduceAdd, Nat.reduceLeDiff, Nat.reduceMul, Nat.reduceBEq, Nat.reduceBneDiff, Nat.reduceLT, Nat.reduceSub]
  try exact D.Le.sc_eq (congrArg (Value.int .i64) (by decide))
 have b4 : (k == 4) = false := by simpa using c4
 by_cases c7 : k = 7
 ·subst c7
  simp +contextual -implicitDefEqProofs only [k_l06Kids, Int.reduceBEq, beq_self_eq_true, go_sem, eI, eB, ↓reduceIte, Nat.reduceEqDiff, Nat.reduceAdd, Nat.reduceLeDiff, Nat.reduceMul, Nat.reduceBEq, Nat.reduceBneDiff, Nat.reduceLT, Nat.reduceSub]
  try exact D.Le.sc_eq (congrArg (Value.int .i64) (by decide))
 have b7 : (k == 7) = false := by simpa using c7
 by_cases c5 : k = 5
 ·subst c5
  simp +contextual -implicitDefEqProofs only [k_l06Kids, Int.reduceBEq, beq_self_eq_true, go_sem, eI, eB, ↓reduceIte, Nat.reduceEqDiff, Nat.reduceAdd, Nat.reduceLeDiff, Nat.reduceMul, Nat.reduceBEq, Nat.reduceBneDiff, Nat.reduceLT, Nat.reduceSub]
  try exact D.Le.sc_eq (congrArg (Value.int .i64) (by decide))
 have b5 : (k == 5) = false := by simpa using c5
 by_cases c6 : k = 6
 ·subst c6
  simp +contextual -implicitDefEqProofs only [k_l06Kids, Int.reduceBEq, beq_self_eq_true, go_sem, eI, eB, ↓reduceIte, Nat.reduceEqDiff, Nat.reduceAdd, Nat.reduceLeDiff, Nat.reduceMul, Nat.reduceBEq, Nat.reduceBneDiff, Nat.reduceLT, Nat.reduceSub]
  try exact D.Le.sc_eq (congrArg (Value.int .i64) (by decide))
 have b6 : (k == 6) = false := by simpa using c6
 simp +contextual -implicitDefEqProofs only [k_l06Kids, b1, b2, b3, b4, b7, b5, b6, go_sem, eI, eB, ↓reduceIte, Nat.reduceEqDiff, Nat.reduceAdd, Nat.reduceLeDiff, Nat.reduceMul, Nat.reduceBEq, Nat.reduceBneDiff, Nat.reduceLT, Nat.reduceSub]
 exact D.Le.sc_eq (by simp [kidsP, c1, c2, c3, c4, c7, c5, c6])

def k_l06Asks : RC := (.seq (.reg false [⟨none, .mv 2 (.c (.sc (.bool false)))⟩]) ((.seq (.reg false [⟨none, .mv 3 (.t 0)⟩, ⟨none, .bin 4 .eql (.t 3) (.c (.sc (.int .i64 4)))⟩, ⟨none, .mv 5 (.t 4)⟩, ⟨some (5, false), .mv 6 (.t 0)⟩, ⟨some (5, false), .bin 7 .eql (.t 6) (.c (.sc (.int .i64 6)))⟩, ⟨none, .pick 8 (.t 5) (.c (.sc (.bool true))) (.t 7)⟩, ⟨none, .mv 9 (.t 8)⟩, ⟨some (9, false), .mv 10 (.t 0)⟩, ⟨some (9, false), .bin 11 .eql (.t 10) (.c (.sc (.int .i64 7)))⟩, ⟨none, .pick 12 (.t 9) (.c (.sc (.bool true))) (.t 11)⟩, ⟨none, .mv 2 (.t 12)⟩]) (.ret))))
def K_l06Asks (P : Program) (fno : Nat) : Prop := ∀ (k : Int), AF P fno [eI k] (.own (eB (asksP k)))
theorem a_l06Asks {P : Program} (hm : P.follows .mixedOrders = true) {g : Nat} (hr : resF P g = some (13, k_l06Asks, [.t 2])) : K_l06Asks P g := by
 intro k
 refine af_of_res hr hm rfl fun hb => ?_
 cases b4 : (k == 4)
 ·cases b6 : (k == 6)
  ·simp +contextual -implicitDefEqProofs only [k_l06Asks, asksP, b4, b6, bne, Bool.not_true, Bool.not_false, Bool.true_and, Bool.false_and, Bool.and_true, Bool.and_false, Bool.true_or, Bool.false_or, Bool.or_true, Bool.or_false, go_sem, eI, eB, ↓reduceIte, Nat.reduceEqDiff, Nat.reduceAdd, Nat.reduceLeDiff, Nat.reduceMul, Nat.reduceBEq, Nat.reduceBneDiff, Nat.reduceLT, Nat.reduceSub]
  ·simp +contextual -implicitDefEqProofs only [k_l06Asks, asksP, b4, b6, bne, Bool.not_true, Bool.not_false, Bool.true_and, Bool.false_and, Bool.and_true, Bool.and_false, Bool.true_or, Bool.false_or, Bool.or_true, Bool.or_false, go_sem, eI, eB, ↓reduceIte, Nat.reduceEqDiff, Nat.reduceAdd, Nat.reduceLeDiff, Nat.reduceMul, Nat.reduceBEq, Nat.reduceBneDiff, Nat.reduceLT, Nat.reduceSub]
 ·simp +contextual -implicitDefEqProofs only [k_l06Asks, asksP, b4, bne, Bool.not_true, Bool.not_false, Bool.true_and, Bool.false_and, Bool.and_true, Bool.and_false, Bool.true_or, Bool.false_or, Bool.or_true, Bool.or_false, go_sem, eI, eB, ↓reduceIte, Nat.reduceEqDiff, Nat.reduceAdd, Nat.reduceLeDiff, Nat.reduceMul, Nat.reduceBEq, Nat.reduceBneDiff, Nat.reduceLT, Nat.reduceSub]

def k_progFits (g f1 f2 f3 f4 : Nat) : RC := (.seq (.reg false [⟨none, .box 4 2 (.t 0)⟩, ⟨none, .box 5 6 (.t 1)⟩, ⟨none, .mv 8 (.c (.sc (.int .i64 0)))⟩, ⟨none, .mv 9 (.c (.sc (.bool false)))⟩]) ((.seq (.reg false [⟨none, .fa 17 0 (.t 5)⟩, ⟨none, .ld 18 false 1 (.t 17)⟩, ⟨none, .call (some 19) f1 [(.t 18)]⟩, ⟨none, .mv 16 (.t 19)⟩, ⟨none, .ext 20 (.t 16) 0⟩, ⟨none, .ext 21 (.t 16) 1⟩, ⟨none, .mv 10 (.t 20)⟩, ⟨none, .mv 11 (.t 21)⟩]) ((.seq ((.seq (.reg false [⟨none, .mv 22 (.t 2)⟩, ⟨none, .bin 23 .eql (.t 22) (.c (.sc (.int .i64 0)))⟩, ⟨none, .mv 24 (.t 23)⟩, ⟨some (24, false), .mv 25 (.t 3)⟩, ⟨some (24, false), .bin 26 .eql (.t 25) (.c (.sc (.int .i64 0)))⟩, ⟨none, .pick 27 (.t 24) (.c (.sc (.bool true))) (.t 26)⟩, ⟨none, .mv 28 (.t 27)⟩, ⟨some (28, false), .mv 29 (.t 10)⟩, ⟨some (28, false), .fa 30 5 (.t 5)⟩, ⟨some (28, false), .ld 31 false 1 (.t 30)⟩, ⟨some (28, false), .len 32 (.t 31)⟩, ⟨some (28, false), .bin 33 .neq (.t 29) (.t 32)⟩, ⟨none, .pick 34 (.t 28) (.c (.sc (.bool true))) (.t 33)⟩]) (.cond (.t 34) ((.seq (.reg false [⟨none, .mv 8 (.c (.sc (.int .i64 0)))⟩, ⟨none, .mv 9 (.c (.sc (.bool false)))⟩]) (.ret))) (.skip)))) ((.seq ((.seq (.reg false [⟨none, .mv 35 (.t 11)⟩, ⟨none, .mv 36 (.t 35)⟩, ⟨some (36, true), .ld 37 true 2 (.t 4)⟩, ⟨some (36, true), .fa 38 2 (.t 5)⟩, ⟨some (36, true), .ld 39 true 3 (.t 38)⟩, ⟨some (36, true), .call (some 40) f2 [(.t 37), (.t 39)]⟩, ⟨some (36, true), .un 41 .not (.t 40)⟩, ⟨none, .pick 42 (.t 36) (.t 41) (.c (.sc (.bool false)))⟩, ⟨none, .mv 43 (.t 42)⟩, ⟨some (43, false), .mv 44 (.t 11)⟩, ⟨some (43, false), .un 45 .not (.t 44)⟩, ⟨some (43, false), .mv 46 (.t 45)⟩, ⟨some (46, true), .fa 47 2 (.t 5)⟩, ⟨some (46, true), .ld 48 true 3 (.t 47)⟩, ⟨some (46, true), .call (some 49) f3 [(.t 48)]⟩, ⟨some (46, true), .un 50 .not (.t 49)⟩, ⟨some (43, false), .pick 51 (.t 46) (.t 50) (.c (.sc (.bool false)))⟩, ⟨none, .pick 52 (.t 43) (.c (.sc (.bool true))) (.t 51)⟩]) (.cond (.t 52) ((.seq (.reg false [⟨none, .mv 8 (.c (.sc (.int .i64 0)))⟩, ⟨none, .mv 9 (.c (.sc (.bool false)))⟩]) (.ret))) (.skip)))) ((.seq ((.seq (.reg false [⟨none, .fa 53 0 (.t 5)⟩, ⟨none, .ld 54 false 1 (.t 53)⟩, ⟨none, .bin 55 .eql (.t 54) (.c (.sc (.int .i64 3)))⟩, ⟨none, .mv 56 (.t 55)⟩, ⟨some (56, true), .fa 57 1 (.t 5)⟩, ⟨some (56, true), .ld 58 false 1 (.t 57)⟩, ⟨some (56, true), .fa 59 1 (.t 4)⟩, ⟨some (56, true), .ld 60 false 1 (.t 59)⟩, ⟨some (56, true), .bin 61 .sub (.t 60) (.c (.sc (.int .i64 1)))⟩, ⟨some (56, true), .call (some 62) f4 [(.t 58), (.c (.sc (.int .i64 0))), (.t 61)]⟩, ⟨some (56, true), .un 63 .not (.t 62)⟩, ⟨none, .pick 64 (.t 56) (.t 63) (.c (.sc (.bool false)))⟩, ⟨none, .mv 65 (.t 64)⟩, ⟨some (65, false), .fa 66 0 (.t 5)⟩, ⟨some (65, false), .ld 67 false 1 (.t 66)⟩, ⟨some (65, false), .bin 68 .neq (.t 67) (.c (.sc (.int .i64 3)))⟩, ⟨some (65, false), .mv 69 (.t 68)⟩, ⟨some (69, true), .fa 70 1 (.t 5)⟩, ⟨some (69, true), .ld 71 false 1 (.t 70)⟩, ⟨some (69, true), .bin 72 .neq (.t 71) (.c (.sc (.int .i64 0)))⟩, ⟨some (65, false), .pick 73 (.t 69) (.t 72) (.c (.sc (.bool false)))⟩, ⟨none, .pick 74 (.t 65) (.c (.sc (.bool true))) (.t 73)⟩]) (.cond (.t 74) ((.seq (.reg false [⟨none, .mv 8 (.c (.sc (.int .i64 0)))⟩, ⟨none, .mv 9 (.c (.sc (.bool false)))⟩]) (.ret))) (.skip)))) ((.seq (.reg false [⟨none, .mv 75 (.t 2)⟩, ⟨none, .bin 76 .sub (.t 75) (.c (.sc (.int .i64 1)))⟩, ⟨none, .mv 2 (.t 76)⟩]) ((.seq ((.seq (.reg false [⟨none, .fa 77 5 (.t 5)⟩, ⟨none, .ld 78 false 1 (.t 77)⟩, ⟨none, .len 79 (.t 78)⟩, ⟨none, .mv 80 (.c (.sc (.int .i64 0)))⟩]) (.blk 0 (.loop ((.seq (.reg false [⟨none, .bin 81 .lss (.t 80) (.t 79)⟩]) ((.seq (.cond (.t 81) (.skip) (.exit 0)) ((.seq (.blk 1 ((.seq (.reg false [⟨none, .ia 82 6 (.t 78) (.t 80)⟩, ⟨none, .ld 83 true 6 (.t 82)⟩, ⟨none, .zer 13 6 (.ag [(.sc (.int .i64 0)), (.sc (.int .i64 0)), (.sc (.int .i64 0)), (.sc (.int .i64 0)), (.ls (some true) 3 []), (.ls (some true) 6 [])])⟩, ⟨none, .st 6 (.t 13) (.t 83)⟩]) ((.seq (.reg false [⟨none, .ld 85 true 2 (.t 4)⟩, ⟨none, .ld 86 true 6 (.t 13)⟩, ⟨none, .mv 87 (.t 2)⟩, ⟨none, .mv 88 (.t 3)⟩, ⟨none, .bin 89 .sub (.t 88) (.c (.sc (.int .i64 1)))⟩, ⟨none, .call (some 90) g [(.t 85), (.t 86), (.t 87), (.t 89)]⟩, ⟨none, .mv 84 (.t 90)⟩, ⟨none, .ext 91 (.t 84) 0⟩, ⟨none, .ext 92 (.t 84) 1⟩, ⟨none, .mv 14 (.t 91)⟩, ⟨none, .mv 15 (.t 92)⟩]) ((.seq ((.seq (.reg false [⟨none, .mv 93 (.t 15)⟩, ⟨none, .un 94 .not (.t 93)⟩]) (.cond (.t 94) ((.seq (.reg false [⟨none, .mv 8 (.c (.sc (.int .i64 0)))⟩, ⟨none, .mv 9 (.c (.sc (.bool false)))⟩]) (.ret))) (.skip)))) (.reg false [⟨none, .mv 95 (.t 14)⟩, ⟨none, .mv 2 (.t 95)⟩])))))))) (.reg false [⟨none, .bin 96 .add (.t 80) (.c (.sc (.int .i64 1)))⟩, ⟨none, .mv 80 (.t 96)⟩]))))))))))) ((.seq (.reg false [⟨none, .mv 97 (.t 2)⟩, ⟨none, .mv 8 (.t 97)⟩, ⟨none, .mv 9 (.c (.sc (.bool true)))⟩]) (.ret))))))))))))))))
def K_progFits (P : Program) (fno : Nat) : Prop := ∀ (g : Int × Int) (e : Pg) (N d : Int) (h1 : 0 ≤ N) (h2 : N ≤ 1048576) (h3 : 0 ≤ d) (h4 : d ≤ 1048576), AF P fno [eG g, eP e, eI N, eI d] (.tup ([.own (eI ((shP g e N d).getD 0)), .own (eB (shP g e N d).isSome)]))
theorem a_progFits {P : Program} (hm : P.follows .mixedOrders = true) {g f1 f2 f3 f4 : Nat} (hr : resF P g = some (98, k_progFits g f1 f2 f3 f4, [.t 8, .t 9])) (hc1 : K_progForm P f1) (hc2 : K_imCondOk P f2) (hc3 : K_isNone P f3) (hc4 : K_within P f4) : K_progFits P g := by
 intro g e N d h1 h2 h3 h4
 rename_i gg
 revert N d
 refine Pg.ind (p := fun e => ∀ N d : Int, 0 ≤ N → N ≤ 1048576 → 0 ≤ d → d ≤ 1048576 → AF P gg [eG g, eP e, eI N, eI d] (.tup [.own (eI ((shP g e N d).getD 0)), .own (eB (shP g e N d).isSome)])) (fun k n c nn ks ih N d h1 h2 h3 h4 => ?_) e
 have hv := shP_mk g k n c nn ks N d
 rw [eP_mk]
 refine af_of_res hr hm rfl fun hb => ?_
 have hl : ks.length ≤ 9223372036854775807 := by
  have := hb.2.1
  simp only [D.bd, D.bdL, List.length_map, maxEl] at this
  exact this.2.2.2.2.2.1.1
 simp +contextual -implicitDefEqProofs only [k_progFits, eG, bne, Bool.not_true, Bool.not_false, Bool.true_and, Bool.false_and, Bool.and_true, Bool.and_false, Bool.true_or, Bool.false_or, Bool.or_true, Bool.or_false, go_sem, eI, eB, ↓reduceIte, Nat.reduceEqDiff, Nat.reduceAdd, Nat.reduceLeDiff, Nat.reduceMul, Nat.reduceBEq, Nat.reduceBneDiff, Nat.reduceLT, Nat.reduceSub]
 refine callQ_self ?_ (hc1 k) ?_
 ·exact rfl
 cases b1 : (N == 0)
 case true =>
  have hn := hv.trans (if_pos (.inl (by simpa using b1)))
  simp +contextual -implicitDefEqProofs only [b1, bne, Bool.not_true, Bool.not_false, Bool.true_and, Bool.false_and, Bool.and_true, Bool.and_false, Bool.true_or, Bool.false_or, Bool.or_true, Bool.or_false, go_sem, eI, eB, ↓reduceIte, Nat.reduceEqDiff, Nat.reduceAdd, Nat.reduceLeDiff, Nat.reduceMul, Nat.reduceBEq, Nat.reduceBneDiff, Nat.reduceLT, Nat.reduceSub]
  exact ⟨D.Le.sc_eq (by rw [hn]; rfl), D.Le.sc_eq (by rw [hn]; rfl)⟩
 have b1' : ¬ N = 0 := by simpa using b1
 cases b2 : (d == 0)
 case true =>
  have hn := hv.trans (if_pos (.inr (.inl (by simpa using b2))))
  simp +contextual -implicitDefEqProofs only [b1, b2, bne, Bool.not_true, Bool.not_false, Bool.true_and, Bool.false_and, Bool.and_true, Bool.and_false, Bool.true_or, Bool.false_or, Bool.or_true, Bool.or_false, go_sem, eI, eB, ↓reduceIte, Nat.reduceEqDiff, Nat.reduceAdd, Nat.reduceLeDiff, Nat.reduceMul, Nat.reduceBEq, Nat.reduceBneDiff, Nat.reduceLT, Nat.reduceSub]
  exact ⟨D.Le.sc_eq (by rw [hn]; rfl), D.Le.sc_eq (by rw [hn]; rfl)⟩
 have b2' : ¬ d = 0 := by simpa using b2
 cases hk : (kidsP k == (ks.length : Int))
 ·simp +contextual -implicitDefEqProofs only [b1, b2, hk, List.length_map, bne, Bool.not_true, Bool.not_false, Bool.true_and, Bool.false_and, Bool.and_true, Bool.and_false, Bool.true_or, Bool.false_or, Bool.or_true, Bool.or_false, go_sem, eI, eB, ↓reduceIte, Nat.reduceEqDiff, Nat.reduceAdd, Nat.reduceLeDiff, Nat.reduceMul, Nat.reduceBEq, Nat.reduceBneDiff, Nat.reduceLT, Nat.reduceSub]
  exact ⟨D.Le.sc_eq (by rw [(hv.trans (if_pos (.inr (.inr (by simp [formP, hk])))))]; rfl), D.Le.sc_eq (by rw [(hv.trans (if_pos (.inr (.inr (by simp [formP, hk])))))]; rfl)⟩
 cases ha : asksP k
 ·simp +contextual -implicitDefEqProofs only [b1, b2, hk, ha, List.length_map, bne, Bool.not_true, Bool.not_false, Bool.true_and, Bool.false_and, Bool.and_true, Bool.and_false, Bool.true_or, Bool.false_or, Bool.or_true, Bool.or_false, go_sem, eI, eB, ↓reduceIte, Nat.reduceEqDiff, Nat.reduceAdd, Nat.reduceLeDiff, Nat.reduceMul, Nat.reduceBEq, Nat.reduceBneDiff, Nat.reduceLT, Nat.reduceSub]
  refine callQ_self (ds := [eE c]) ?_ (hc3 c) ?_
  ·rw [eE_eta]; exact rfl
  cases hc : noneE c
  ·simp +contextual -implicitDefEqProofs only [ha, hc, bne, Bool.not_true, Bool.not_false, Bool.true_and, Bool.false_and, Bool.and_true, Bool.and_false, Bool.true_or, Bool.false_or, Bool.or_true, Bool.or_false, go_sem, eI, eB, ↓reduceIte, Nat.reduceEqDiff, Nat.reduceAdd, Nat.reduceLeDiff, Nat.reduceMul, Nat.reduceBEq, Nat.reduceBneDiff, Nat.reduceLT, Nat.reduceSub]
   exact ⟨D.Le.sc_eq (by rw [(hv.trans (if_pos (.inr (.inr (by simp [formP, hk, ha, hc, cP])))))]; rfl), D.Le.sc_eq (by rw [(hv.trans (if_pos (.inr (.inr (by simp [formP, hk, ha, hc, cP])))))]; rfl)⟩
  cases b3 : (k == 3)
  ·cases hn : (n == 0)
   ·simp +contextual -implicitDefEqProofs only [ha, hc, List.length_map, b3, hn, bne, Bool.not_true, Bool.not_false, Bool.true_and, Bool.false_and, Bool.and_true, Bool.and_false, Bool.true_or, Bool.false_or, Bool.or_true, Bool.or_false, go_sem, eI, eB, ↓reduceIte, Nat.reduceEqDiff, Nat.reduceAdd, Nat.reduceLeDiff, Nat.reduceMul, Nat.reduceBEq, Nat.reduceBneDiff, Nat.reduceLT, Nat.reduceSub]
    exact ⟨D.Le.sc_eq (by rw [(hv.trans (if_pos (.inr (.inr (by simp [formP, hk, ha, hc, cP, numP, b3, hn])))))]; rfl), D.Le.sc_eq (by rw [(hv.trans (if_pos (.inr (.inr (by simp [formP, hk, ha, hc, cP, numP, b3, hn])))))]; rfl)⟩
   ·simp +contextual -implicitDefEqProofs only [ha, hc, List.length_map, b3, hn, bne, Bool.not_true, Bool.not_false, Bool.true_and, Bool.false_and, Bool.and_true, Bool.and_false, Bool.true_or, Bool.false_or, Bool.or_true, Bool.or_false, go_sem, eI, eB, ↓reduceIte, Nat.reduceEqDiff, Nat.reduceAdd, Nat.reduceLeDiff, Nat.reduceMul, Nat.reduceBEq, Nat.reduceBneDiff, Nat.reduceLT, Nat.reduceSub]
    have hF : formP g k n c ks = true := by simp [formP, hk, ha, hc, cP, numP, b3, hn]
    have hne : ¬ (N = 0 ∨ d = 0 ∨ formP g k n c ks = false) := by rw [hF]; simp; omega
    rw [hv, if_neg hne]
    rw [wrap_i64 (x := N - 1) (by omega) (by omega)]
    refine vc_on (α := Nat × Int) [2, 8, 9, 13, 14, 15, 80, 81, 82, 83, 84, 85, 86, 87, 88, 89, 90, 91, 92, 93, 94, 95, 96] (fun x => [(80, .im none (.sc (.int .i64 x.1))), (2, .im none (.sc (.int .i64 x.2)))]) (fun x => x.1 ≤ ks.length ∧ 0 ≤ x.2 ∧ x.2 ≤ N ∧ shPs g (ks.drop x.1) x.2 (d - 1) = shPs g ks (N - 1) (d - 1)) (fun x => ks.length - x.1) (0, N - 1) (by simp only [subEnv, go_sem, ↓reduceIte, Nat.reduceEqDiff, List.length_map]; simp) ⟨Nat.zero_le _, by simp only; omega, by simp only; omega, rfl⟩ ?_
    rintro ⟨i, m⟩ j
    simp only at j
    obtain ⟨j1, j2, j3, j4⟩ := j
    by_cases hi : i < ks.length
    ·have e1 := at_map (f := eP) hi
     rw [shPs_step hi] at j4
     cases n1 : (eP ks[i]).noPtr
     all_goals
      simp +contextual -implicitDefEqProofs only [e1, hi, encP.sub, eP_size, eP_isAg, Int.ofNat_lt, List.length_map, Int.natCast_nonneg, Nat.zero_lt_one, n1, bne, Bool.not_true, Bool.not_false, Bool.true_and, Bool.false_and, Bool.and_true, Bool.and_false, Bool.true_or, Bool.false_or, Bool.or_true, Bool.or_false, go_sem, eI, eB, ↓reduceIte, Nat.reduceEqDiff, Nat.reduceAdd, Nat.reduceLeDiff, Nat.reduceMul, Nat.reduceBEq, Nat.reduceBneDiff, Nat.reduceLT, Nat.reduceSub]
      rw [wrap_i64 (x := d - 1) (by omega) (by omega)]
      refine callQ_self ?_ (ih ks[i] (List.getElem_mem _) m (d - 1) j2 (by omega) (by omega) (by omega)) ?_
      ·exact rfl
      cases hx : shP g ks[i] m (d - 1) with
      | none =>
       rw [hx] at j4
       simp +contextual -implicitDefEqProofs only [Option.getD_some, Option.getD_none, Option.isSome_some, Option.isSome_none, bne, Bool.not_true, Bool.not_false, Bool.true_and, Bool.false_and, Bool.and_true, Bool.and_false, Bool.true_or, Bool.false_or, Bool.or_true, Bool.or_false, go_sem, eI, eB, ↓reduceIte, Nat.reduceEqDiff, Nat.reduceAdd, Nat.reduceLeDiff, Nat.reduceMul, Nat.reduceBEq, Nat.reduceBneDiff, Nat.reduceLT, Nat.reduceSub]
       exact ⟨D.Le.sc_eq (by rw [← j4]; rfl), D.Le.sc_eq (by rw [← j4]; rfl)⟩
      | some q =>
       rw [hx] at j4
       have hq := shP_some j2 (by omega) hx
       simp +contextual -implicitDefEqProofs only [Option.getD_some, Option.getD_none, Option.isSome_some, Option.isSome_none, bne, Bool.not_true, Bool.not_false, Bool.true_and, Bool.false_and, Bool.and_true, Bool.and_false, Bool.true_or, Bool.false_or, Bool.or_true, Bool.or_false, go_sem, eI, eB, ↓reduceIte, Nat.reduceEqDiff, Nat.reduceAdd, Nat.reduceLeDiff, Nat.reduceMul, Nat.reduceBEq, Nat.reduceBneDiff, Nat.reduceLT, Nat.reduceSub]
       rw [wrap_i64 (by omega) (by omega)]
       exact ⟨(i + 1, q), ⟨by simp only; omega, hq.1, by simp only; omega, j4⟩, by simp only; omega, Ent.delEnv 13 (by simp only [go_sem, ↓reduceIte, Nat.reduceEqDiff, Nat.reduceBEq, killU, AV.refs, U.kill, killL]) (by simp only [subEnv, go_sem, ↓reduceIte, Nat.reduceEqDiff, Nat.reduceBEq, killE, AV.refs, List.length_map]; simp)⟩
    ·simp +contextual -implicitDefEqProofs only [hi, Int.ofNat_lt, List.length_map, Int.natCast_nonneg, bne, Bool.not_true, Bool.not_false, Bool.true_and, Bool.false_and, Bool.and_true, Bool.and_false, Bool.true_or, Bool.false_or, Bool.or_true, Bool.or_false, go_sem, eI, eB, ↓reduceIte, Nat.reduceEqDiff, Nat.reduceAdd, Nat.reduceLeDiff, Nat.reduceMul, Nat.reduceBEq, Nat.reduceBneDiff, Nat.reduceLT, Nat.reduceSub]
     rw [List.drop_eq_nil_of_le (by omega), shPs] at j4
     exact ⟨D.Le.sc_eq (by rw [← j4]; rfl), D.Le.sc_eq (by rw [← j4]; rfl)⟩
  ·simp +contextual -implicitDefEqProofs only [ha, hc, List.length_map, b3, bne, Bool.not_true, Bool.not_false, Bool.true_and, Bool.false_and, Bool.and_true, Bool.and_false, Bool.true_or, Bool.false_or, Bool.or_true, Bool.or_false, go_sem, eI, eB, ↓reduceIte, Nat.reduceEqDiff, Nat.reduceAdd, Nat.reduceLeDiff, Nat.reduceMul, Nat.reduceBEq, Nat.reduceBneDiff, Nat.reduceLT, Nat.reduceSub]
   refine callQ_self ?_ (hc4 n 0 (IntKind.i64.wrap (g.2 - 1))) ?_
   ·exact rfl
   cases hw : isIn n 0 (IntKind.i64.wrap (g.2 - 1))
   ·simp +contextual -implicitDefEqProofs only [ha, hc, List.length_map, b3, hw, bne, Bool.not_true, Bool.not_false, Bool.true_and, Bool.false_and, Bool.and_true, Bool.and_false, Bool.true_or, Bool.false_or, Bool.or_true, Bool.or_false, go_sem, eI, eB, ↓reduceIte, Nat.reduceEqDiff, Nat.reduceAdd, Nat.reduceLeDiff, Nat.reduceMul, Nat.reduceBEq, Nat.reduceBneDiff, Nat.reduceLT, Nat.reduceSub]
    exact ⟨D.Le.sc_eq (by rw [(hv.trans (if_pos (.inr (.inr (by simp [formP, hk, ha, hc, cP, numP, b3, hw])))))]; rfl), D.Le.sc_eq (by rw [(hv.trans (if_pos (.inr (.inr (by simp [formP, hk, ha, hc, cP, numP, b3, hw])))))]; rfl)⟩
   ·simp +contextual -implicitDefEqProofs only [ha, hc, List.length_map, b3, hw, bne, Bool.not_true, Bool.not_false, Bool.true_and, Bool.false_and, Bool.and_true, Bool.and_false, Bool.true_or, Bool.false_or, Bool.or_true, Bool.or_false, go_sem, eI, eB, ↓reduceIte, Nat.reduceEqDiff, Nat.reduceAdd, Nat.reduceLeDiff, Nat.reduceMul, Nat.reduceBEq, Nat.reduceBneDiff, Nat.reduceLT, Nat.reduceSub]
    have hF : formP g k n c ks = true := by simp [formP, hk, ha, hc, cP, numP, b3, hw]
    have hne : ¬ (N = 0 ∨ d = 0 ∨ formP g k n c ks = false) := by rw [hF]; simp; omega
    rw [hv, if_neg hne]
    rw [wrap_i64 (x := N - 1) (by omega) (by omega)]
    refine vc_on (α := Nat × Int) [2, 8, 9, 13, 14, 15, 80, 81, 82, 83, 84, 85, 86, 87, 88, 89, 90, 91, 92, 93, 94, 95, 96] (fun x => [(80, .im none (.sc (.int .i64 x.1))), (2, .im none (.sc (.int .i64 x.2)))]) (fun x => x.1 ≤ ks.length ∧ 0 ≤ x.2 ∧ x.2 ≤ N ∧ shPs g (ks.drop x.1) x.2 (d - 1) = shPs g ks (N - 1) (d - 1)) (fun x => ks.length - x.1) (0, N - 1) (by simp only [subEnv, go_sem, ↓reduceIte, Nat.reduceEqDiff, List.length_map]; simp) ⟨Nat.zero_le _, by simp only; omega, by simp only; omega, rfl⟩ ?_
    rintro ⟨i, m⟩ j
    simp only at j
    obtain ⟨j1, j2, j3, j4⟩ := j
    by_cases hi : i < ks.length
    ·have e1 := at_map (f := eP) hi
     rw [shPs_step hi] at j4
     cases n1 : (eP ks[i]).noPtr
     all_goals
      simp +contextual -implicitDefEqProofs only [e1, hi, encP.sub, eP_size, eP_isAg, Int.ofNat_lt, List.length_map, Int.natCast_nonneg, Nat.zero_lt_one, n1, bne, Bool.not_true, Bool.not_false, Bool.true_and, Bool.false_and, Bool.and_true, Bool.and_false, Bool.true_or, Bool.false_or, Bool.or_true, Bool.or_false, go_sem, eI, eB, ↓reduceIte, Nat.reduceEqDiff, Nat.reduceAdd, Nat.reduceLeDiff, Nat.reduceMul, Nat.reduceBEq, Nat.reduceBneDiff, Nat.reduceLT, Nat.reduceSub]
      rw [wrap_i64 (x := d - 1) (by omega) (by omega)]
      refine callQ_self ?_ (ih ks[i] (List.getElem_mem _) m (d - 1) j2 (by omega) (by omega) (by omega)) ?_
      ·exact rfl
      cases hx : shP g ks[i] m (d - 1) with
      | none =>
       rw [hx] at j4
       simp +contextual -implicitDefEqProofs only [Option.getD_some, Option.getD_none, Option.isSome_some, Option.isSome_none, bne, Bool.not_true, Bool.not_false, Bool.true_and, Bool.false_and, Bool.and_true, Bool.and_false, Bool.true_or, Bool.false_or, Bool.or_true, Bool.or_false, go_sem, eI, eB, ↓reduceIte, Nat.reduceEqDiff, Nat.reduceAdd, Nat.reduceLeDiff, Nat.reduceMul, Nat.reduceBEq, Nat.reduceBneDiff, Nat.reduceLT, Nat.reduceSub]
       exact ⟨D.Le.sc_eq (by rw [← j4]; rfl), D.Le.sc_eq (by rw [← j4]; rfl)⟩
      | some q =>
       rw [hx] at j4
       have hq := shP_some j2 (by omega) hx
       simp +contextual -implicitDefEqProofs only [Option.getD_some, Option.getD_none, Option.isSome_some, Option.isSome_none, bne, Bool.not_true, Bool.not_false, Bool.true_and, Bool.false_and, Bool.and_true, Bool.and_false, Bool.true_or, Bool.false_or, Bool.or_true, Bool.or_false, go_sem, eI, eB, ↓reduceIte, Nat.reduceEqDiff, Nat.reduceAdd, Nat.reduceLeDiff, Nat.reduceMul, Nat.reduceBEq, Nat.reduceBneDiff, Nat.reduceLT, Nat.reduceSub]
       rw [wrap_i64 (by omega) (by omega)]
       exact ⟨(i + 1, q), ⟨by simp only; omega, hq.1, by simp only; omega, j4⟩, by simp only; omega, Ent.delEnv 13 (by simp only [go_sem, ↓reduceIte, Nat.reduceEqDiff, Nat.reduceBEq, killU, AV.refs, U.kill, killL]) (by simp only [subEnv, go_sem, ↓reduceIte, Nat.reduceEqDiff, Nat.reduceBEq, killE, AV.refs, List.length_map]; simp)⟩
    ·simp +contextual -implicitDefEqProofs only [hi, Int.ofNat_lt, List.length_map, Int.natCast_nonneg, bne, Bool.not_true, Bool.not_false, Bool.true_and, Bool.false_and, Bool.and_true, Bool.and_false, Bool.true_or, Bool.false_or, Bool.or_true, Bool.or_false, go_sem, eI, eB, ↓reduceIte, Nat.reduceEqDiff, Nat.reduceAdd, Nat.reduceLeDiff, Nat.reduceMul, Nat.reduceBEq, Nat.reduceBneDiff, Nat.reduceLT, Nat.reduceSub]
     rw [List.drop_eq_nil_of_le (by omega), shPs] at j4
     exact ⟨D.Le.sc_eq (by rw [← j4]; rfl), D.Le.sc_eq (by rw [← j4]; rfl)⟩
 ·simp +contextual -implicitDefEqProofs only [b1, b2, hk, ha, List.length_map, bne, Bool.not_true, Bool.not_false, Bool.true_and, Bool.false_and, Bool.and_true, Bool.and_false, Bool.true_or, Bool.false_or, Bool.or_true, Bool.or_false, go_sem, eI, eB, ↓reduceIte, Nat.reduceEqDiff, Nat.reduceAdd, Nat.reduceLeDiff, Nat.reduceMul, Nat.reduceBEq, Nat.reduceBneDiff, Nat.reduceLT, Nat.reduceSub]
  refine callQ_self (ds := [eG g, eE c]) ?_ (hc2 g c) ?_
  ·rw [eE_eta]; exact rfl
  cases hc : condOk g c
  ·simp +contextual -implicitDefEqProofs only [ha, hc, bne, Bool.not_true, Bool.not_false, Bool.true_and, Bool.false_and, Bool.and_true, Bool.and_false, Bool.true_or, Bool.false_or, Bool.or_true, Bool.or_false, go_sem, eI, eB, ↓reduceIte, Nat.reduceEqDiff, Nat.reduceAdd, Nat.reduceLeDiff, Nat.reduceMul, Nat.reduceBEq, Nat.reduceBneDiff, Nat.reduceLT, Nat.reduceSub]
   exact ⟨D.Le.sc_eq (by rw [(hv.trans (if_pos (.inr (.inr (by simp [formP, hk, ha, hc, cP])))))]; rfl), D.Le.sc_eq (by rw [(hv.trans (if_pos (.inr (.inr (by simp [formP, hk, ha, hc, cP])))))]; rfl)⟩
  cases b3 : (k == 3)
  ·cases hn : (n == 0)
   ·simp +contextual -implicitDefEqProofs only [ha, hc, List.length_map, b3, hn, bne, Bool.not_true, Bool.not_false, Bool.true_and, Bool.false_and, Bool.and_true, Bool.and_false, Bool.true_or, Bool.false_or, Bool.or_true, Bool.or_false, go_sem, eI, eB, ↓reduceIte, Nat.reduceEqDiff, Nat.reduceAdd, Nat.reduceLeDiff, Nat.reduceMul, Nat.reduceBEq, Nat.reduceBneDiff, Nat.reduceLT, Nat.reduceSub]
    exact ⟨D.Le.sc_eq (by rw [(hv.trans (if_pos (.inr (.inr (by simp [formP, hk, ha, hc, cP, numP, b3, hn])))))]; rfl), D.Le.sc_eq (by rw [(hv.trans (if_pos (.inr (.inr (by simp [formP, hk, ha, hc, cP, numP, b3, hn])))))]; rfl)⟩
   ·simp +contextual -implicitDefEqProofs only [ha, hc, List.length_map, b3, hn, bne, Bool.not_true, Bool.not_false, Bool.true_and, Bool.false_and, Bool.and_true, Bool.and_false, Bool.true_or, Bool.false_or, Bool.or_true, Bool.or_false, go_sem, eI, eB, ↓reduceIte, Nat.reduceEqDiff, Nat.reduceAdd, Nat.reduceLeDiff, Nat.reduceMul, Nat.reduceBEq, Nat.reduceBneDiff, Nat.reduceLT, Nat.reduceSub]
    have hF : formP g k n c ks = true := by simp [formP, hk, ha, hc, cP, numP, b3, hn]
    have hne : ¬ (N = 0 ∨ d = 0 ∨ formP g k n c ks = false) := by rw [hF]; simp; omega
    rw [hv, if_neg hne]
    rw [wrap_i64 (x := N - 1) (by omega) (by omega)]
    refine vc_on (α := Nat × Int) [2, 8, 9, 13, 14, 15, 80, 81, 82, 83, 84, 85, 86, 87, 88, 89, 90, 91, 92, 93, 94, 95, 96] (fun x => [(80, .im none (.sc (.int .i64 x.1))), (2, .im none (.sc (.int .i64 x.2)))]) (fun x => x.1 ≤ ks.length ∧ 0 ≤ x.2 ∧ x.2 ≤ N ∧ shPs g (ks.drop x.1) x.2 (d - 1) = shPs g ks (N - 1) (d - 1)) (fun x => ks.length - x.1) (0, N - 1) (by simp only [subEnv, go_sem, ↓reduceIte, Nat.reduceEqDiff, List.length_map]; simp) ⟨Nat.zero_le _, by simp only; omega, by simp only; omega, rfl⟩ ?_
    rintro ⟨i, m⟩ j
    simp only at j
    obtain ⟨j1, j2, j3, j4⟩ := j
    by_cases hi : i < ks.length
    ·have e1 := at_map (f := eP) hi
     rw [shPs_step hi] at j4
     cases n1 : (eP ks[i]).noPtr
     all_goals
      simp +contextual -implicitDefEqProofs only [e1, hi, encP.sub, eP_size, eP_isAg, Int.ofNat_lt, List.length_map, Int.natCast_nonneg, Nat.zero_lt_one, n1, bne, Bool.not_true, Bool.not_false, Bool.true_and, Bool.false_and, Bool.and_true, Bool.and_false, Bool.true_or, Bool.false_or, Bool.or_true, Bool.or_false, go_sem, eI, eB, ↓reduceIte, Nat.reduceEqDiff, Nat.reduceAdd, Nat.reduceLeDiff, Nat.reduceMul, Nat.reduceBEq, Nat.reduceBneDiff, Nat.reduceLT, Nat.reduceSub]
      rw [wrap_i64 (x := d - 1) (by omega) (by omega)]
      refine callQ_self ?_ (ih ks[i] (List.getElem_mem _) m (d - 1) j2 (by omega) (by omega) (by omega)) ?_
      ·exact rfl
      cases hx : shP g ks[i] m (d - 1) with
      | none =>
       rw [hx] at j4
       simp +contextual -implicitDefEqProofs only [Option.getD_some, Option.getD_none, Option.isSome_some, Option.isSome_none, bne, Bool.not_true, Bool.not_false, Bool.true_and, Bool.false_and, Bool.and_true, Bool.and_false, Bool.true_or, Bool.false_or, Bool.or_true, Bool.or_false, go_sem, eI, eB, ↓reduceIte, Nat.reduceEqDiff, Nat.reduceAdd, Nat.reduceLeDiff, Nat.reduceMul, Nat.reduceBEq, Nat.reduceBneDiff, Nat.reduceLT, Nat.reduceSub]
       exact ⟨D.Le.sc_eq (by rw [← j4]; rfl), D.Le.sc_eq (by rw [← j4]; rfl)⟩
      | some q =>
       rw [hx] at j4
       have hq := shP_some j2 (by omega) hx
       simp +contextual -implicitDefEqProofs only [Option.getD_some, Option.getD_none, Option.isSome_some, Option.isSome_none, bne, Bool.not_true, Bool.not_false, Bool.true_and, Bool.false_and, Bool.and_true, Bool.and_false, Bool.true_or, Bool.false_or, Bool.or_true, Bool.or_false, go_sem, eI, eB, ↓reduceIte, Nat.reduceEqDiff, Nat.reduceAdd, Nat.reduceLeDiff, Nat.reduceMul, Nat.reduceBEq, Nat.reduceBneDiff, Nat.reduceLT, Nat.reduceSub]
       rw [wrap_i64 (by omega) (by omega)]
       exact ⟨(i + 1, q), ⟨by simp only; omega, hq.1, by simp only; omega, j4⟩, by simp only; omega, Ent.delEnv 13 (by simp only [go_sem, ↓reduceIte, Nat.reduceEqDiff, Nat.reduceBEq, killU, AV.refs, U.kill, killL]) (by simp only [subEnv, go_sem, ↓reduceIte, Nat.reduceEqDiff, Nat.reduceBEq, killE, AV.refs, List.length_map]; simp)⟩
    ·simp +contextual -implicitDefEqProofs only [hi, Int.ofNat_lt, List.length_map, Int.natCast_nonneg, bne, Bool.not_true, Bool.not_false, Bool.true_and, Bool.false_and, Bool.and_true, Bool.and_false, Bool.true_or, Bool.false_or, Bool.or_true, Bool.or_false, go_sem, eI, eB, ↓reduceIte, Nat.reduceEqDiff, Nat.reduceAdd, Nat.reduceLeDiff, Nat.reduceMul, Nat.reduceBEq, Nat.reduceBneDiff, Nat.reduceLT, Nat.reduceSub]
     rw [List.drop_eq_nil_of_le (by omega), shPs] at j4
     exact ⟨D.Le.sc_eq (by rw [← j4]; rfl), D.Le.sc_eq (by rw [← j4]; rfl)⟩
  ·simp +contextual -implicitDefEqProofs only [ha, hc, List.length_map, b3, bne, Bool.not_true, Bool.not_false, Bool.true_and, Bool.false_and, Bool.and_true, Bool.and_false, Bool.true_or, Bool.false_or, Bool.or_true, Bool.or_false, go_sem, eI, eB, ↓reduceIte, Nat.reduceEqDiff, Nat.reduceAdd, Nat.reduceLeDiff, Nat.reduceMul, Nat.reduceBEq, Nat.reduceBneDiff, Nat.reduceLT, Nat.reduceSub]
   refine callQ_self ?_ (hc4 n 0 (IntKind.i64.wrap (g.2 - 1))) ?_
   ·exact rfl
   cases hw : isIn n 0 (IntKind.i64.wrap (g.2 - 1))
   ·simp +contextual -implicitDefEqProofs only [ha, hc, List.length_map, b3, hw, bne, Bool.not_true, Bool.not_false, Bool.true_and, Bool.false_and, Bool.and_true, Bool.and_false, Bool.true_or, Bool.false_or, Bool.or_true, Bool.or_false, go_sem, eI, eB, ↓reduceIte, Nat.reduceEqDiff, Nat.reduceAdd, Nat.reduceLeDiff, Nat.reduceMul, Nat.reduceBEq, Nat.reduceBneDiff, Nat.reduceLT, Nat.reduceSub]
    exact ⟨D.Le.sc_eq (by rw [(hv.trans (if_pos (.inr (.inr (by simp [formP, hk, ha, hc, cP, numP, b3, hw])))))]; rfl), D.Le.sc_eq (by rw [(hv.trans (if_pos (.inr (.inr (by simp [formP, hk, ha, hc, cP, numP, b3, hw])))))]; rfl)⟩
   ·simp +contextual -implicitDefEqProofs only [ha, hc, List.length_map, b3, hw, bne, Bool.not_true, Bool.not_false, Bool.true_and, Bool.false_and, Bool.and_true, Bool.and_false, Bool.true_or, Bool.false_or, Bool.or_true, Bool.or_false, go_sem, eI, eB, ↓reduceIte, Nat.reduceEqDiff, Nat.reduceAdd, Nat.reduceLeDiff, Nat.reduceMul, Nat.reduceBEq, Nat.reduceBneDiff, Nat.reduceLT, Nat.reduceSub]
    have hF : formP g k n c ks = true := by simp [formP, hk, ha, hc, cP, numP, b3, hw]
    have hne : ¬ (N = 0 ∨ d = 0 ∨ formP g k n c ks = false) := by rw [hF]; simp; omega
    rw [hv, if_neg hne]
    rw [wrap_i64 (x := N - 1) (by omega) (by omega)]
    refine vc_on (α := Nat × Int) [2, 8, 9, 13, 14, 15, 80, 81, 82, 83, 84, 85, 86, 87, 88, 89, 90, 91, 92, 93, 94, 95, 96] (fun x => [(80, .im none (.sc (.int .i64 x.1))), (2, .im none (.sc (.int .i64 x.2)))]) (fun x => x.1 ≤ ks.length ∧ 0 ≤ x.2 ∧ x.2 ≤ N ∧ shPs g (ks.drop x.1) x.2 (d - 1) = shPs g ks (N - 1) (d - 1)) (fun x => ks.length - x.1) (0, N - 1) (by simp only [subEnv, go_sem, ↓reduceIte, Nat.reduceEqDiff, List.length_map]; simp) ⟨Nat.zero_le _, by simp only; omega, by simp only; omega, rfl⟩ ?_
    rintro ⟨i, m⟩ j
    simp only at j
    obtain ⟨j1, j2, j3, j4⟩ := j
    by_cases hi : i < ks.length
    ·have e1 := at_map (f := eP) hi
     rw [shPs_step hi] at j4
     cases n1 : (eP ks[i]).noPtr
     all_goals
      simp +contextual -implicitDefEqProofs only [e1, hi, encP.sub, eP_size, eP_isAg, Int.ofNat_lt, List.length_map, Int.natCast_nonneg, Nat.zero_lt_one, n1, bne, Bool.not_true, Bool.not_false, Bool.true_and, Bool.false_and, Bool.and_true, Bool.and_false, Bool.true_or, Bool.false_or, Bool.or_true, Bool.or_false, go_sem, eI, eB, ↓reduceIte, Nat.reduceEqDiff, Nat.reduceAdd, Nat.reduceLeDiff, Nat.reduceMul, Nat.reduceBEq, Nat.reduceBneDiff, Nat.reduceLT, Nat.reduceSub]
      rw [wrap_i64 (x := d - 1) (by omega) (by omega)]
      refine callQ_self ?_ (ih ks[i] (List.getElem_mem _) m (d - 1) j2 (by omega) (by omega) (by omega)) ?_
      ·exact rfl
      cases hx : shP g ks[i] m (d - 1) with
      | none =>
       rw [hx] at j4
       simp +contextual -implicitDefEqProofs only [Option.getD_some, Option.getD_none, Option.isSome_some, Option.isSome_none, bne, Bool.not_true, Bool.not_false, Bool.true_and, Bool.false_and, Bool.and_true, Bool.and_false, Bool.true_or, Bool.false_or, Bool.or_true, Bool.or_false, go_sem, eI, eB, ↓reduceIte, Nat.reduceEqDiff, Nat.reduceAdd, Nat.reduceLeDiff, Nat.reduceMul, Nat.reduceBEq, Nat.reduceBneDiff, Nat.reduceLT, Nat.reduceSub]
       exact ⟨D.Le.sc_eq (by rw [← j4]; rfl), D.Le.sc_eq (by rw [← j4]; rfl)⟩
      | some q =>
       rw [hx] at j4
       have hq := shP_some j2 (by omega) hx
       simp +contextual -implicitDefEqProofs only [Option.getD_some, Option.getD_none, Option.isSome_some, Option.isSome_none, bne, Bool.not_true, Bool.not_false, Bool.true_and, Bool.false_and, Bool.and_true, Bool.and_false, Bool.true_or, Bool.false_or, Bool.or_true, Bool.or_false, go_sem, eI, eB, ↓reduceIte, Nat.reduceEqDiff, Nat.reduceAdd, Nat.reduceLeDiff, Nat.reduceMul, Nat.reduceBEq, Nat.reduceBneDiff, Nat.reduceLT, Nat.reduceSub]
       rw [wrap_i64 (by omega) (by omega)]
       exact ⟨(i + 1, q), ⟨by simp only; omega, hq.1, by simp only; omega, j4⟩, by simp only; omega, Ent.delEnv 13 (by simp only [go_sem, ↓reduceIte, Nat.reduceEqDiff, Nat.reduceBEq, killU, AV.refs, U.kill, killL]) (by simp only [subEnv, go_sem, ↓reduceIte, Nat.reduceEqDiff, Nat.reduceBEq, killE, AV.refs, List.length_map]; simp)⟩
    ·simp +contextual -implicitDefEqProofs only [hi, Int.ofNat_lt, List.length_map, Int.natCast_nonneg, bne, Bool.not_true, Bool.not_false, Bool.true_and, Bool.false_and, Bool.and_true, Bool.and_false, Bool.true_or, Bool.false_or, Bool.or_true, Bool.or_false, go_sem, eI, eB, ↓reduceIte, Nat.reduceEqDiff, Nat.reduceAdd, Nat.reduceLeDiff, Nat.reduceMul, Nat.reduceBEq, Nat.reduceBneDiff, Nat.reduceLT, Nat.reduceSub]
     rw [List.drop_eq_nil_of_le (by omega), shPs] at j4
     exact ⟨D.Le.sc_eq (by rw [← j4]; rfl), D.Le.sc_eq (by rw [← j4]; rfl)⟩
theorem eP_ex (e : Pg) : ∃ k n c nn ks, e = .mk k n c nn ks := by cases e; exact ⟨_, _, _, _, _, rfl⟩

def k_isProg (f1 : Nat) : RC := (.seq (.reg false [⟨none, .box 2 2 (.t 0)⟩, ⟨none, .box 3 6 (.t 1)⟩, ⟨none, .mv 4 (.c (.sc (.bool false)))⟩]) ((.seq (.reg false [⟨none, .ld 8 true 2 (.t 2)⟩, ⟨none, .ld 9 true 6 (.t 3)⟩, ⟨none, .call (some 10) f1 [(.t 8), (.t 9), (.c (.sc (.int .i64 60))), (.c (.sc (.int .i64 20)))]⟩, ⟨none, .mv 7 (.t 10)⟩, ⟨none, .ext 11 (.t 7) 0⟩, ⟨none, .ext 12 (.t 7) 1⟩, ⟨none, .mv 5 (.t 11)⟩, ⟨none, .mv 6 (.t 12)⟩]) ((.seq (.reg false [⟨none, .mv 13 (.t 6)⟩, ⟨none, .mv 4 (.t 13)⟩]) (.ret))))))
def K_isProg (P : Program) (fno : Nat) : Prop := ∀ (g : Int × Int) (e : Pg), AF P fno [eG g, eP e] (.own (eB (okP g e)))
theorem a_isProg {P : Program} (hm : P.follows .mixedOrders = true) {g f1 : Nat} (hr : resF P g = some (14, k_isProg f1, [.t 4])) (hc1 : K_progFits P f1) : K_isProg P g := by
 intro g e
 rw [← shP_ok]
 have hp : ∀ k n c nn ks, eP (.mk k n c nn ks) = _ := eP_mk
 obtain ⟨k, n, c, nn, ks, rfl⟩ := eP_ex e
 rw [eP_mk]
 refine af_of_res hr hm rfl fun hb => ?_
 simp +contextual -implicitDefEqProofs only [k_isProg, eG, bne, Bool.not_true, Bool.not_false, Bool.true_and, Bool.false_and, Bool.and_true, Bool.and_false, Bool.true_or, Bool.false_or, Bool.or_true, Bool.or_false, go_sem, eI, eB, ↓reduceIte, Nat.reduceEqDiff, Nat.reduceAdd, Nat.reduceLeDiff, Nat.reduceMul, Nat.reduceBEq, Nat.reduceBneDiff, Nat.reduceLT, Nat.reduceSub]
 refine callQ_self (ds := [eG g, eP (.mk k n c nn ks), eI 60, eI 20]) ?_ (hc1 g (.mk k n c nn ks) 60 20 (by omega) (by omega) (by omega) (by omega)) ?_
 ·rw [eP_mk]; exact rfl
 simp +contextual -implicitDefEqProofs only [bne, Bool.not_true, Bool.not_false, Bool.true_and, Bool.false_and, Bool.and_true, Bool.and_false, Bool.true_or, Bool.false_or, Bool.or_true, Bool.or_false, go_sem, eI, eB, ↓reduceIte, Nat.reduceEqDiff, Nat.reduceAdd, Nat.reduceLeDiff, Nat.reduceMul, Nat.reduceBEq, Nat.reduceBneDiff, Nat.reduceLT, Nat.reduceSub]

def k_imValidProg (f1 f2 : Nat) : RC := (.seq (.reg false [⟨none, .box 2 2 (.t 0)⟩, ⟨none, .box 3 6 (.t 1)⟩, ⟨none, .mv 4 (.c (.sc (.bool false)))⟩]) ((.seq (.reg false [⟨none, .ld 5 true 2 (.t 2)⟩, ⟨none, .call (some 6) f1 [(.t 5)]⟩, ⟨none, .mv 7 (.t 6)⟩, ⟨some (7, true), .ld 8 true 2 (.t 2)⟩, ⟨some (7, true), .ld 9 true 6 (.t 3)⟩, ⟨some (7, true), .call (some 10) f2 [(.t 8), (.t 9)]⟩, ⟨none, .pick 11 (.t 7) (.t 10) (.c (.sc (.bool false)))⟩, ⟨none, .mv 4 (.t 11)⟩]) (.ret))))
def K_imValidProg (P : Program) (fno : Nat) : Prop := ∀ (g : Int × Int) (e : Pg), AF P fno [eG g, eP e] (.own (eB (okG g && okP g e)))
theorem a_imValidProg {P : Program} (hm : P.follows .mixedOrders = true) {g f1 f2 : Nat} (hr : resF P g = some (12, k_imValidProg f1 f2, [.t 4])) (hc1 : K_validSig P f1) (hc2 : K_isProg P f2) : K_imValidProg P g := by
 intro g e
 obtain ⟨k, n, c, nn, ks, rfl⟩ := eP_ex e
 rw [eP_mk]
 refine af_of_res hr hm rfl fun hb => ?_
 simp +contextual -implicitDefEqProofs only [k_imValidProg, eG, bne, Bool.not_true, Bool.not_false, Bool.true_and, Bool.false_and, Bool.and_true, Bool.and_false, Bool.true_or, Bool.false_or, Bool.or_true, Bool.or_false, go_sem, eI, eB, ↓reduceIte, Nat.reduceEqDiff, Nat.reduceAdd, Nat.reduceLeDiff, Nat.reduceMul, Nat.reduceBEq, Nat.reduceBneDiff, Nat.reduceLT, Nat.reduceSub]
 refine callQ_self ?_ (hc1 g) ?_
 ·exact rfl
 cases hg : okG g
 ·simp +contextual -implicitDefEqProofs only [hg, bne, Bool.not_true, Bool.not_false, Bool.true_and, Bool.false_and, Bool.and_true, Bool.and_false, Bool.true_or, Bool.false_or, Bool.or_true, Bool.or_false, go_sem, eI, eB, ↓reduceIte, Nat.reduceEqDiff, Nat.reduceAdd, Nat.reduceLeDiff, Nat.reduceMul, Nat.reduceBEq, Nat.reduceBneDiff, Nat.reduceLT, Nat.reduceSub]
 simp +contextual -implicitDefEqProofs only [hg, bne, Bool.not_true, Bool.not_false, Bool.true_and, Bool.false_and, Bool.and_true, Bool.and_false, Bool.true_or, Bool.false_or, Bool.or_true, Bool.or_false, go_sem, eI, eB, ↓reduceIte, Nat.reduceEqDiff, Nat.reduceAdd, Nat.reduceLeDiff, Nat.reduceMul, Nat.reduceBEq, Nat.reduceBneDiff, Nat.reduceLT, Nat.reduceSub]
 refine callQ_self (ds := [eG g, eP (.mk k n c nn ks)]) ?_ (hc2 g (.mk k n c nn ks)) ?_
 ·rw [eP_mk]; exact rfl
 simp +contextual -implicitDefEqProofs only [hg, bne, Bool.not_true, Bool.not_false, Bool.true_and, Bool.false_and, Bool.and_true, Bool.and_false, Bool.true_or, Bool.false_or, Bool.or_true, Bool.or_false, go_sem, eI, eB, ↓reduceIte, Nat.reduceEqDiff, Nat.reduceAdd, Nat.reduceLeDiff, Nat.reduceMul, Nat.reduceBEq, Nat.reduceBneDiff, Nat.reduceLT, Nat.reduceSub]

def k_l06Left (g : Nat) : RC := (.seq (.reg false [⟨none, .mv 4 (.c (.sc (.int .i64 0)))⟩]) ((.seq (.reg false [⟨none, .mv 6 (.t 1)⟩, ⟨none, .bin 7 .sub (.t 6) (.c (.sc (.int .i64 1)))⟩, ⟨none, .mv 1 (.t 7)⟩]) ((.seq ((.seq (.reg false [⟨none, .mv 5 (.c (.sc (.int .i64 0)))⟩]) (.blk 0 (.loop ((.seq ((.seq (.reg false [⟨none, .mv 8 (.t 5)⟩, ⟨none, .mv 9 (.t 0)⟩, ⟨none, .nck 10 (.t 9)⟩, ⟨none, .fa 11 5 (.t 10)⟩, ⟨none, .ld 12 false 1 (.t 11)⟩, ⟨none, .len 13 (.t 12)⟩, ⟨none, .bin 14 .lss (.t 8) (.t 13)⟩, ⟨none, .mv 15 (.t 14)⟩, ⟨some (15, true), .mv 16 (.t 1)⟩, ⟨some (15, true), .bin 17 .geq (.t 16) (.c (.sc (.int .i64 0)))⟩, ⟨none, .pick 18 (.t 15) (.t 17) (.c (.sc (.bool false)))⟩]) (.cond (.t 18) (.skip) (.exit 0)))) ((.seq (.blk 1 (.reg false [⟨none, .mv 21 (.t 0)⟩, ⟨none, .nck 22 (.t 21)⟩, ⟨none, .fa 23 5 (.t 22)⟩, ⟨none, .ld 24 false 1 (.t 23)⟩, ⟨none, .mv 25 (.t 5)⟩, ⟨none, .ia 26 6 (.t 24) (.t 25)⟩, ⟨none, .mv 27 (.t 1)⟩, ⟨none, .call (some 28) g [(.t 26), (.t 27)]⟩, ⟨none, .mv 1 (.t 28)⟩])) (.reg false [⟨none, .mv 19 (.t 5)⟩, ⟨none, .bin 20 .add (.t 19) (.c (.sc (.int .i64 1)))⟩, ⟨none, .mv 5 (.t 20)⟩]))))))))) ((.seq (.reg false [⟨none, .mv 29 (.t 1)⟩, ⟨none, .mv 4 (.t 29)⟩]) (.ret))))))))
def K_l06Left (P : Program) (fno : Nat) : Prop := ∀ (e : Pg) (l : Int) (h1 : 0 ≤ l) (h2 : l ≤ 1048576), AF P fno [.pt (eP e) 0, eI l] (.own (eI (leftP e l)))
theorem a_l06Left {P : Program} (hm : P.follows .mixedOrders = true) {g : Nat} (hr : resF P g = some (30, k_l06Left g, [.t 4])) : K_l06Left P g := by
 intro e l h1 h2
 revert l
 refine Pg.ind (p := fun e => ∀ l : Int, 0 ≤ l → l ≤ 1048576 → AF P g [.pt (eP e) 0, eI l] (.own (eI (leftP e l)))) (fun k n c nn ks ih l h1 h2 => ?_) e
 rw [eP_mk, leftP_mk]
 refine af_of_res hr hm rfl fun hb => ?_
 have hl : ks.length ≤ 9223372036854775807 := by
  have := hb.1
  simp only [D.bd, D.bdL, List.length_map, maxEl] at this
  exact this.2.2.2.2.2.1.1
 simp +contextual -implicitDefEqProofs only [k_l06Left, List.length_map, bne, Bool.not_true, Bool.not_false, Bool.true_and, Bool.false_and, Bool.and_true, Bool.and_false, Bool.true_or, Bool.false_or, Bool.or_true, Bool.or_false, go_sem, eI, eB, ↓reduceIte, Nat.reduceEqDiff, Nat.reduceAdd, Nat.reduceLeDiff, Nat.reduceMul, Nat.reduceBEq, Nat.reduceBneDiff, Nat.reduceLT, Nat.reduceSub]
 rw [wrap_i64 (by omega) (by omega)]
 refine vc_on (α := Nat × Int) [1, 5, 8, 9, 10, 11, 12, 13, 14, 15, 16, 17, 18, 19, 20, 21, 22, 23, 24, 25, 26, 27, 28] (fun x => [(5, .im none (.sc (.int .i64 x.1))), (1, .im none (.sc (.int .i64 x.2)))]) (fun x => x.1 ≤ ks.length ∧ -1 ≤ x.2 ∧ x.2 ≤ l ∧ leftPs (ks.drop x.1) x.2 = leftPs ks (l - 1)) (fun x => ks.length - x.1) (0, l - 1) (by simp only [subEnv, go_sem, ↓reduceIte, Nat.reduceEqDiff, List.length_map]; simp) ⟨Nat.zero_le _, by simp only; omega, by simp only; omega, rfl⟩ ?_
 rintro ⟨i, m⟩ j
 simp only at j
 obtain ⟨j1, j2, j3, j4⟩ := j
 by_cases hi : i < ks.length
 ·have e1 := at_map (f := eP) hi
  by_cases hm0 : 0 ≤ m
  ·have hm1 : ¬ m < 0 := by omega
   rw [leftPs_step hi hm1] at j4
   simp +contextual -implicitDefEqProofs only [e1, hi, eP_size, Int.ofNat_lt, List.length_map, Int.natCast_nonneg, Nat.zero_lt_one, hm0, bne, Bool.not_true, Bool.not_false, Bool.true_and, Bool.false_and, Bool.and_true, Bool.and_false, Bool.true_or, Bool.false_or, Bool.or_true, Bool.or_false, go_sem, eI, eB, ↓reduceIte, Nat.reduceEqDiff, Nat.reduceAdd, Nat.reduceLeDiff, Nat.reduceMul, Nat.reduceBEq, Nat.reduceBneDiff, Nat.reduceLT, Nat.reduceSub]
   refine callQ_self ?_ (ih ks[i] (List.getElem_mem _) m hm0 (by omega)) ?_
   ·exact rfl
   have hq := leftP_in ks[i] m hm0
   simp +contextual -implicitDefEqProofs only [bne, Bool.not_true, Bool.not_false, Bool.true_and, Bool.false_and, Bool.and_true, Bool.and_false, Bool.true_or, Bool.false_or, Bool.or_true, Bool.or_false, go_sem, eI, eB, ↓reduceIte, Nat.reduceEqDiff, Nat.reduceAdd, Nat.reduceLeDiff, Nat.reduceMul, Nat.reduceBEq, Nat.reduceBneDiff, Nat.reduceLT, Nat.reduceSub]
   rw [wrap_i64 (by omega) (by omega)]
   exact ⟨(i + 1, leftP ks[i] m), ⟨by simp only; omega, by simp only; omega, by simp only; omega, j4⟩, by simp only; omega, Ent.env (by simp only [subEnv, go_sem, ↓reduceIte, Nat.reduceEqDiff, List.length_map]; simp)⟩
  ·simp +contextual -implicitDefEqProofs only [e1, hi, eP_size, Int.ofNat_lt, List.length_map, Int.natCast_nonneg, Nat.zero_lt_one, hm0, bne, Bool.not_true, Bool.not_false, Bool.true_and, Bool.false_and, Bool.and_true, Bool.and_false, Bool.true_or, Bool.false_or, Bool.or_true, Bool.or_false, go_sem, eI, eB, ↓reduceIte, Nat.reduceEqDiff, Nat.reduceAdd, Nat.reduceLeDiff, Nat.reduceMul, Nat.reduceBEq, Nat.reduceBneDiff, Nat.reduceLT, Nat.reduceSub]
   exact D.Le.sc_eq (by rw [← j4, leftPs_neg (by omega)])
 ·simp +contextual -implicitDefEqProofs only [hi, Int.ofNat_lt, List.length_map, Int.natCast_nonneg, bne, Bool.not_true, Bool.not_false, Bool.true_and, Bool.false_and, Bool.and_true, Bool.and_false, Bool.true_or, Bool.false_or, Bool.or_true, Bool.or_false, go_sem, eI, eB, ↓reduceIte, Nat.reduceEqDiff, Nat.reduceAdd, Nat.reduceLeDiff, Nat.reduceMul, Nat.reduceBEq, Nat.reduceBneDiff, Nat.reduceLT, Nat.reduceSub]
  rw [List.drop_eq_nil_of_le (by omega), leftPs] at j4
  exact D.Le.sc_eq (by rw [← j4])

def k_l06Depth (g f1 : Nat) : RC := (.seq (.reg false [⟨none, .mv 2 (.c (.sc (.int .i64 0)))⟩]) ((.seq (.reg false [⟨none, .mv 3 (.c (.sc (.int .i64 0)))⟩]) ((.seq ((.seq (.reg false [⟨none, .mv 4 (.c (.sc (.int .i64 0)))⟩]) (.blk 0 (.loop ((.seq ((.seq (.reg false [⟨none, .mv 5 (.t 4)⟩, ⟨none, .mv 6 (.t 0)⟩, ⟨none, .nck 7 (.t 6)⟩, ⟨none, .fa 8 5 (.t 7)⟩, ⟨none, .ld 9 false 1 (.t 8)⟩, ⟨none, .len 10 (.t 9)⟩, ⟨none, .bin 11 .lss (.t 5) (.t 10)⟩]) (.cond (.t 11) (.skip) (.exit 0)))) ((.seq (.blk 1 (.reg false [⟨none, .mv 14 (.t 3)⟩, ⟨none, .mv 15 (.t 0)⟩, ⟨none, .nck 16 (.t 15)⟩, ⟨none, .fa 17 5 (.t 16)⟩, ⟨none, .ld 18 false 1 (.t 17)⟩, ⟨none, .mv 19 (.t 4)⟩, ⟨none, .ia 20 6 (.t 18) (.t 19)⟩, ⟨none, .call (some 21) g [(.t 20)]⟩, ⟨none, .call (some 22) f1 [(.t 14), (.t 21)]⟩, ⟨none, .mv 3 (.t 22)⟩])) (.reg false [⟨none, .mv 12 (.t 4)⟩, ⟨none, .bin 13 .add (.t 12) (.c (.sc (.int .i64 1)))⟩, ⟨none, .mv 4 (.t 13)⟩]))))))))) ((.seq (.reg false [⟨none, .mv 23 (.t 3)⟩, ⟨none, .bin 24 .add (.t 23) (.c (.sc (.int .i64 1)))⟩, ⟨none, .mv 2 (.t 24)⟩]) (.ret))))))))
def K_l06Depth (P : Program) (fno : Nat) : Prop := ∀ (e : Pg) (h : sizeP e ≤ 1048576), AF P fno [.pt (eP e) 0] (.own (eI (depthP e)))
theorem a_l06Depth {P : Program} (hm : P.follows .mixedOrders = true) {g f1 : Nat} (hr : resF P g = some (25, k_l06Depth g f1, [.t 2])) (hc1 : K_l00Max P f1) : K_l06Depth P g := by
 intro e h
 revert h
 refine Pg.ind (p := fun e => sizeP e ≤ 1048576 → AF P g [.pt (eP e) 0] (.own (eI (depthP e)))) (fun k n c nn ks ih h => ?_) e
 have hd := depthP_le (.mk k n c nn ks)
 have hsz := h
 rw [sizeP_mk] at hsz
 rw [depthP_mk] at hd ⊢
 rw [eP_mk]
 refine af_of_res hr hm rfl fun hb => ?_
 have hl : ks.length ≤ 9223372036854775807 := by
  have := hb.1
  simp only [D.bd, D.bdL, List.length_map, maxEl] at this
  exact this.2.2.2.2.2.1.1
 simp +contextual -implicitDefEqProofs only [k_l06Depth, List.length_map, bne, Bool.not_true, Bool.not_false, Bool.true_and, Bool.false_and, Bool.and_true, Bool.and_false, Bool.true_or, Bool.false_or, Bool.or_true, Bool.or_false, go_sem, eI, eB, ↓reduceIte, Nat.reduceEqDiff, Nat.reduceAdd, Nat.reduceLeDiff, Nat.reduceMul, Nat.reduceBEq, Nat.reduceBneDiff, Nat.reduceLT, Nat.reduceSub]
 refine vc_on (α := Nat × Nat) [3, 4, 5, 6, 7, 8, 9, 10, 11, 12, 13, 14, 15, 16, 17, 18, 19, 20, 21, 22] (fun x => [(4, .im none (.sc (.int .i64 (x.1 : Nat)))), (3, .im none (.sc (.int .i64 (x.2 : Nat))))]) (fun x => x.1 ≤ ks.length ∧ max x.2 (depthPs (ks.drop x.1)) = depthPs ks) (fun x => ks.length - x.1) (0, 0) (by simp only [subEnv, go_sem, ↓reduceIte, Nat.reduceEqDiff, List.length_map]; simp) ⟨Nat.zero_le _, by simp⟩ ?_
 rintro ⟨i, m⟩ j
 simp only at j
 obtain ⟨j1, j4⟩ := j
 by_cases hi : i < ks.length
 ·have e1 := at_map (f := eP) hi
  rw [depthPs_step hi] at j4
  have hmm := sizeP_mem (List.getElem_mem hi)
  simp +contextual -implicitDefEqProofs only [e1, hi, eP_size, Int.ofNat_lt, List.length_map, Int.natCast_nonneg, Nat.zero_lt_one, bne, Bool.not_true, Bool.not_false, Bool.true_and, Bool.false_and, Bool.and_true, Bool.and_false, Bool.true_or, Bool.false_or, Bool.or_true, Bool.or_false, go_sem, eI, eB, ↓reduceIte, Nat.reduceEqDiff, Nat.reduceAdd, Nat.reduceLeDiff, Nat.reduceMul, Nat.reduceBEq, Nat.reduceBneDiff, Nat.reduceLT, Nat.reduceSub]
  refine callQ_self ?_ (ih ks[i] (List.getElem_mem _) (by omega)) ?_
  ·exact rfl
  simp +contextual -implicitDefEqProofs only [bne, Bool.not_true, Bool.not_false, Bool.true_and, Bool.false_and, Bool.and_true, Bool.and_false, Bool.true_or, Bool.false_or, Bool.or_true, Bool.or_false, go_sem, eI, eB, ↓reduceIte, Nat.reduceEqDiff, Nat.reduceAdd, Nat.reduceLeDiff, Nat.reduceMul, Nat.reduceBEq, Nat.reduceBneDiff, Nat.reduceLT, Nat.reduceSub]
  refine callQ_self ?_ (hc1 m (depthP ks[i])) ?_
  ·exact rfl
  rw [max_int]
  simp +contextual -implicitDefEqProofs only [bne, Bool.not_true, Bool.not_false, Bool.true_and, Bool.false_and, Bool.and_true, Bool.and_false, Bool.true_or, Bool.false_or, Bool.or_true, Bool.or_false, go_sem, eI, eB, ↓reduceIte, Nat.reduceEqDiff, Nat.reduceAdd, Nat.reduceLeDiff, Nat.reduceMul, Nat.reduceBEq, Nat.reduceBneDiff, Nat.reduceLT, Nat.reduceSub]
  rw [wrap_i64 (by omega) (by omega)]
  exact ⟨(i + 1, max m (depthP ks[i])), ⟨by simp only; omega, by simp only; omega⟩, by simp only; omega, Ent.env (by simp only [subEnv, go_sem, ↓reduceIte, Nat.reduceEqDiff, List.length_map]; simp)⟩
 ·simp +contextual -implicitDefEqProofs only [hi, Int.ofNat_lt, List.length_map, Int.natCast_nonneg, bne, Bool.not_true, Bool.not_false, Bool.true_and, Bool.false_and, Bool.and_true, Bool.and_false, Bool.true_or, Bool.false_or, Bool.or_true, Bool.or_false, go_sem, eI, eB, ↓reduceIte, Nat.reduceEqDiff, Nat.reduceAdd, Nat.reduceLeDiff, Nat.reduceMul, Nat.reduceBEq, Nat.reduceBneDiff, Nat.reduceLT, Nat.reduceSub]
  rw [List.drop_eq_nil_of_le (by omega), depthPs] at j4
  have hm' : m = depthPs ks := by omega
  rw [wrap_i64 (by omega) (by omega)]
  exact D.Le.sc_eq (by rw [hm']; congr 1; omega)

def k_l06Tree (g f1 f2 f3 f4 f5 : Nat) : RC := (.seq (.reg false [⟨none, .box 2 2 (.t 0)⟩, ⟨none, .mv 4 (.c (.sc (.bool false)))⟩]) ((.seq ((.seq (.reg true [⟨none, .mv 6 (.t 1)⟩, ⟨none, .nck 7 (.t 6)⟩, ⟨none, .fa 8 5 (.t 7)⟩, ⟨none, .ld 9 false 1 (.t 8)⟩, ⟨none, .len 10 (.t 9)⟩, ⟨none, .mv 11 (.t 1)⟩, ⟨none, .nck 12 (.t 11)⟩, ⟨none, .fa 13 0 (.t 12)⟩, ⟨none, .ld 14 false 1 (.t 13)⟩, ⟨none, .call (some 15) f1 [(.t 14)]⟩, ⟨none, .bin 16 .neq (.t 10) (.t 15)⟩]) (.cond (.t 16) ((.seq (.reg false [⟨none, .mv 4 (.c (.sc (.bool false)))⟩]) (.ret))) (.skip)))) ((.seq ((.seq (.reg true [⟨none, .mv 17 (.t 1)⟩, ⟨none, .nck 18 (.t 17)⟩, ⟨none, .fa 19 0 (.t 18)⟩, ⟨none, .ld 20 false 1 (.t 19)⟩, ⟨none, .bin 21 .eql (.t 20) (.c (.sc (.int .i64 3)))⟩, ⟨none, .mv 22 (.t 21)⟩, ⟨some (22, true), .mv 23 (.t 1)⟩, ⟨some (22, true), .nck 24 (.t 23)⟩, ⟨some (22, true), .fa 25 1 (.t 24)⟩, ⟨some (22, true), .ld 26 false 1 (.t 25)⟩, ⟨some (22, true), .fa 27 1 (.t 2)⟩, ⟨some (22, true), .ld 28 false 1 (.t 27)⟩, ⟨some (22, true), .bin 29 .sub (.t 28) (.c (.sc (.int .i64 1)))⟩, ⟨some (22, true), .call (some 30) f2 [(.t 26), (.c (.sc (.int .i64 0))), (.t 29)]⟩, ⟨some (22, true), .un 31 .not (.t 30)⟩, ⟨none, .pick 32 (.t 22) (.t 31) (.c (.sc (.bool false)))⟩, ⟨none, .mv 33 (.t 32)⟩, ⟨some (33, false), .mv 34 (.t 1)⟩, ⟨some (33, false), .nck 35 (.t 34)⟩, ⟨some (33, false), .fa 36 0 (.t 35)⟩, ⟨some (33, false), .ld 37 false 1 (.t 36)⟩, ⟨some (33, false), .bin 38 .neq (.t 37) (.c (.sc (.int .i64 3)))⟩, ⟨some (33, false), .mv 39 (.t 38)⟩, ⟨some (39, true), .mv 40 (.t 1)⟩, ⟨some (39, true), .nck 41 (.t 40)⟩, ⟨some (39, true), .fa 42 1 (.t 41)⟩, ⟨some (39, true), .ld 43 false 1 (.t 42)⟩, ⟨some (39, true), .bin 44 .neq (.t 43) (.c (.sc (.int .i64 0)))⟩, ⟨some (33, false), .pick 45 (.t 39) (.t 44) (.c (.sc (.bool false)))⟩, ⟨none, .pick 46 (.t 33) (.c (.sc (.bool true))) (.t 45)⟩]) (.cond (.t 46) ((.seq (.reg false [⟨none, .mv 4 (.c (.sc (.bool false)))⟩]) (.ret))) (.skip)))) ((.seq ((.seq (.reg true [⟨none, .mv 47 (.t 1)⟩, ⟨none, .nck 48 (.t 47)⟩, ⟨none, .fa 49 0 (.t 48)⟩, ⟨none, .ld 50 false 1 (.t 49)⟩, ⟨none, .call (some 51) f3 [(.t 50)]⟩, ⟨none, .mv 52 (.t 51)⟩, ⟨some (52, true), .ld 53 true 2 (.t 2)⟩, ⟨some (52, true), .mv 54 (.t 1)⟩, ⟨some (52, true), .nck 55 (.t 54)⟩, ⟨some (52, true), .fa 56 2 (.t 55)⟩, ⟨some (52, true), .call (some 57) f4 [(.t 53), (.t 56)]⟩, ⟨some (52, true), .un 58 .not (.t 57)⟩, ⟨none, .pick 59 (.t 52) (.t 58) (.c (.sc (.bool false)))⟩, ⟨none, .mv 60 (.t 59)⟩, ⟨some (60, false), .mv 61 (.t 1)⟩, ⟨some (60, false), .nck 62 (.t 61)⟩, ⟨some (60, false), .fa 63 0 (.t 62)⟩, ⟨some (60, false), .ld 64 false 1 (.t 63)⟩, ⟨some (60, false), .call (some 65) f3 [(.t 64)]⟩, ⟨some (60, false), .un 66 .not (.t 65)⟩, ⟨some (60, false), .mv 67 (.t 66)⟩, ⟨some (67, true), .mv 68 (.t 1)⟩, ⟨some (67, true), .nck 69 (.t 68)⟩, ⟨some (67, true), .fa 70 2 (.t 69)⟩, ⟨some (67, true), .call (some 71) f5 [(.t 70)]⟩, ⟨some (67, true), .un 72 .not (.t 71)⟩, ⟨some (60, false), .pick 73 (.t 67) (.t 72) (.c (.sc (.bool false)))⟩, ⟨none, .pick 74 (.t 60) (.c (.sc (.bool true))) (.t 73)⟩]) (.cond (.t 74) ((.seq (.reg false [⟨none, .mv 4 (.c (.sc (.bool false)))⟩]) (.ret))) (.skip)))) ((.seq ((.seq (.reg false [⟨none, .mv 5 (.c (.sc (.int .i64 0)))⟩]) (.blk 0 (.loop ((.seq ((.seq (.reg false [⟨none, .mv 75 (.t 5)⟩, ⟨none, .mv 76 (.t 1)⟩, ⟨none, .nck 77 (.t 76)⟩, ⟨none, .fa 78 5 (.t 77)⟩, ⟨none, .ld 79 false 1 (.t 78)⟩, ⟨none, .len 80 (.t 79)⟩, ⟨none, .bin 81 .lss (.t 75) (.t 80)⟩]) (.cond (.t 81) (.skip) (.exit 0)))) ((.seq (.blk 1 ((.seq (.reg true [⟨none, .ld 84 true 2 (.t 2)⟩, ⟨none, .mv 85 (.t 1)⟩, ⟨none, .nck 86 (.t 85)⟩, ⟨none, .fa 87 5 (.t 86)⟩, ⟨none, .ld 88 false 1 (.t 87)⟩, ⟨none, .mv 89 (.t 5)⟩, ⟨none, .ia 90 6 (.t 88) (.t 89)⟩, ⟨none, .call (some 91) g [(.t 84), (.t 90)]⟩, ⟨none, .un 92 .not (.t 91)⟩]) (.cond (.t 92) ((.seq (.reg false [⟨none, .mv 4 (.c (.sc (.bool false)))⟩]) (.ret))) (.skip))))) (.reg false [⟨none, .mv 82 (.t 5)⟩, ⟨none, .bin 83 .add (.t 82) (.c (.sc (.int .i64 1)))⟩, ⟨none, .mv 5 (.t 83)⟩]))))))))) ((.seq (.reg false [⟨none, .mv 4 (.c (.sc (.bool true)))⟩]) (.ret))))))))))))
def K_l06Tree (P : Program) (fno : Nat) : Prop := ∀ (g : Int × Int) (e : Pg) (hg : okG g = true), AF P fno [eG g, .pt (eP e) 0] (.own (eB (treeP g e)))
theorem a_l06Tree {P : Program} (hm : P.follows .mixedOrders = true) {g f1 f2 f3 f4 f5 : Nat} (hr : resF P g = some (93, k_l06Tree g f1 f2 f3 f4 f5, [.t 4])) (hc1 : K_l06Kids P f1) (hc2 : K_l00In P f2) (hc3 : K_l06Asks P f3) (hc4 : K_l06Cond P f4) (hc5 : K_l06None P f5) : K_l06Tree P g := by
 intro g e hg
 rename_i gg
 refine Pg.ind (p := fun e => AF P gg [eG g, .pt (eP e) 0] (.own (eB (treeP g e)))) (fun k n c nn ks ih => ?_) e
 rw [eP_mk, treeP_mk]
 refine af_of_res hr hm rfl fun hb => ?_
 have hl : ks.length ≤ 9223372036854775807 := by
  have := hb.2.1
  simp only [D.bd, D.bdL, List.length_map, maxEl] at this
  exact this.2.2.2.2.2.1.1
 simp +contextual -implicitDefEqProofs only [k_l06Tree, eG, List.length_map, bne, Bool.not_true, Bool.not_false, Bool.true_and, Bool.false_and, Bool.and_true, Bool.and_false, Bool.true_or, Bool.false_or, Bool.or_true, Bool.or_false, go_sem, eI, eB, ↓reduceIte, Nat.reduceEqDiff, Nat.reduceAdd, Nat.reduceLeDiff, Nat.reduceMul, Nat.reduceBEq, Nat.reduceBneDiff, Nat.reduceLT, Nat.reduceSub]
 refine callQ_self ?_ (hc1 k) ?_
 ·exact rfl
 cases hk : (kidsP k == (ks.length : Int))
 ·have hk2 : ((ks.length : Int) == kidsP k) = false := by simp at hk ⊢; omega
  simp +contextual -implicitDefEqProofs only [hk2, List.length_map, bne, Bool.not_true, Bool.not_false, Bool.true_and, Bool.false_and, Bool.and_true, Bool.and_false, Bool.true_or, Bool.false_or, Bool.or_true, Bool.or_false, go_sem, eI, eB, ↓reduceIte, Nat.reduceEqDiff, Nat.reduceAdd, Nat.reduceLeDiff, Nat.reduceMul, Nat.reduceBEq, Nat.reduceBneDiff, Nat.reduceLT, Nat.reduceSub]
  exact D.Le.sc_eq (by simp [formP, hk])
 have hk2 : ((ks.length : Int) == kidsP k) = true := by simp at hk ⊢; omega
 cases b3 : (k == 3)
 ·cases hn : (n == 0)
  ·simp +contextual -implicitDefEqProofs only [hk2, b3, hn, List.length_map, bne, Bool.not_true, Bool.not_false, Bool.true_and, Bool.false_and, Bool.and_true, Bool.and_false, Bool.true_or, Bool.false_or, Bool.or_true, Bool.or_false, go_sem, eI, eB, ↓reduceIte, Nat.reduceEqDiff, Nat.reduceAdd, Nat.reduceLeDiff, Nat.reduceMul, Nat.reduceBEq, Nat.reduceBneDiff, Nat.reduceLT, Nat.reduceSub]
   exact D.Le.sc_eq (by simp [formP, hk, b3, hn, numP])
  simp +contextual -implicitDefEqProofs only [hk2, b3, hn, List.length_map, bne, Bool.not_true, Bool.not_false, Bool.true_and, Bool.false_and, Bool.and_true, Bool.and_false, Bool.true_or, Bool.false_or, Bool.or_true, Bool.or_false, go_sem, eI, eB, ↓reduceIte, Nat.reduceEqDiff, Nat.reduceAdd, Nat.reduceLeDiff, Nat.reduceMul, Nat.reduceBEq, Nat.reduceBneDiff, Nat.reduceLT, Nat.reduceSub]
  refine callQ_self ?_ (hc3 k) ?_
  ·exact rfl
  cases ha : asksP k
  ·simp +contextual -implicitDefEqProofs only [hk2, b3, hn, List.length_map, ha, bne, Bool.not_true, Bool.not_false, Bool.true_and, Bool.false_and, Bool.and_true, Bool.and_false, Bool.true_or, Bool.false_or, Bool.or_true, Bool.or_false, go_sem, eI, eB, ↓reduceIte, Nat.reduceEqDiff, Nat.reduceAdd, Nat.reduceLeDiff, Nat.reduceMul, Nat.reduceBEq, Nat.reduceBneDiff, Nat.reduceLT, Nat.reduceSub]
   refine callQ_self ?_ (hc3 k) ?_
   ·exact rfl
   simp +contextual -implicitDefEqProofs only [hk2, b3, hn, List.length_map, ha, bne, Bool.not_true, Bool.not_false, Bool.true_and, Bool.false_and, Bool.and_true, Bool.and_false, Bool.true_or, Bool.false_or, Bool.or_true, Bool.or_false, go_sem, eI, eB, ↓reduceIte, Nat.reduceEqDiff, Nat.reduceAdd, Nat.reduceLeDiff, Nat.reduceMul, Nat.reduceBEq, Nat.reduceBneDiff, Nat.reduceLT, Nat.reduceSub]
   refine callQ_le (es := [.pt (eE c) 0]) rfl ⟨D.LeA.sub (sz := 3) (by simp [D.size, D.sizeL]) rfl (by omega) (by rw [eE_eta]; rfl), trivial⟩ (hc5 c) ?_
   cases hc : noneE c
   ·simp +contextual -implicitDefEqProofs only [hk2, b3, hn, List.length_map, ha, hc, bne, Bool.not_true, Bool.not_false, Bool.true_and, Bool.false_and, Bool.and_true, Bool.and_false, Bool.true_or, Bool.false_or, Bool.or_true, Bool.or_false, go_sem, eI, eB, ↓reduceIte, Nat.reduceEqDiff, Nat.reduceAdd, Nat.reduceLeDiff, Nat.reduceMul, Nat.reduceBEq, Nat.reduceBneDiff, Nat.reduceLT, Nat.reduceSub]
    exact D.Le.sc_eq (by simp [formP, hk, b3, hn, numP, ha, hc, cP])
   ·simp +contextual -implicitDefEqProofs only [hk2, b3, hn, List.length_map, ha, hc, bne, Bool.not_true, Bool.not_false, Bool.true_and, Bool.false_and, Bool.and_true, Bool.and_false, Bool.true_or, Bool.false_or, Bool.or_true, Bool.or_false, go_sem, eI, eB, ↓reduceIte, Nat.reduceEqDiff, Nat.reduceAdd, Nat.reduceLeDiff, Nat.reduceMul, Nat.reduceBEq, Nat.reduceBneDiff, Nat.reduceLT, Nat.reduceSub]
    have hF : formP g k n c ks = true := by simp [formP, hk, b3, hn, numP, ha, hc, cP]
    rw [hF, Bool.true_and]
    refine vc_on (α := Nat) [4, 5, 75, 76, 77, 78, 79, 80, 81, 82, 83, 84, 85, 86, 87, 88, 89, 90, 91, 92] (fun i => [(5, .im none (.sc (.int .i64 i)))]) (fun i => i ≤ ks.length ∧ (ks.take i).all (treeP g) = true) (fun i => ks.length - i) 0 (by simp only [subEnv, go_sem, ↓reduceIte, Nat.reduceEqDiff, List.length_map]; simp) ⟨Nat.zero_le _, rfl⟩ ?_
    rintro i ⟨j1, j2⟩
    by_cases hi : i < ks.length
    ·have e1 := at_map (f := eP) hi
     simp +contextual -implicitDefEqProofs only [e1, hi, eP_size, Int.ofNat_lt, List.length_map, Int.natCast_nonneg, Nat.zero_lt_one, bne, Bool.not_true, Bool.not_false, Bool.true_and, Bool.false_and, Bool.and_true, Bool.and_false, Bool.true_or, Bool.false_or, Bool.or_true, Bool.or_false, go_sem, eI, eB, ↓reduceIte, Nat.reduceEqDiff, Nat.reduceAdd, Nat.reduceLeDiff, Nat.reduceMul, Nat.reduceBEq, Nat.reduceBneDiff, Nat.reduceLT, Nat.reduceSub]
     refine callQ_self ?_ (ih ks[i] (List.getElem_mem _)) ?_
     ·exact rfl
     cases hx : treeP g ks[i]
     ·simp +contextual -implicitDefEqProofs only [bne, Bool.not_true, Bool.not_false, Bool.true_and, Bool.false_and, Bool.and_true, Bool.and_false, Bool.true_or, Bool.false_or, Bool.or_true, Bool.or_false, go_sem, eI, eB, ↓reduceIte, Nat.reduceEqDiff, Nat.reduceAdd, Nat.reduceLeDiff, Nat.reduceMul, Nat.reduceBEq, Nat.reduceBneDiff, Nat.reduceLT, Nat.reduceSub]
      exact D.Le.sc_eq (by rw [all_fail hi hx])
     ·simp +contextual -implicitDefEqProofs only [bne, Bool.not_true, Bool.not_false, Bool.true_and, Bool.false_and, Bool.and_true, Bool.and_false, Bool.true_or, Bool.false_or, Bool.or_true, Bool.or_false, go_sem, eI, eB, ↓reduceIte, Nat.reduceEqDiff, Nat.reduceAdd, Nat.reduceLeDiff, Nat.reduceMul, Nat.reduceBEq, Nat.reduceBneDiff, Nat.reduceLT, Nat.reduceSub]
      rw [wrap_i64 (by omega) (by omega)]
      exact ⟨i + 1, ⟨by omega, all_take_succ hi j2 hx⟩, by omega, Ent.env (by simp only [subEnv, go_sem, ↓reduceIte, Nat.reduceEqDiff, List.length_map]; simp)⟩
    ·simp +contextual -implicitDefEqProofs only [hi, Int.ofNat_lt, List.length_map, Int.natCast_nonneg, bne, Bool.not_true, Bool.not_false, Bool.true_and, Bool.false_and, Bool.and_true, Bool.and_false, Bool.true_or, Bool.false_or, Bool.or_true, Bool.or_false, go_sem, eI, eB, ↓reduceIte, Nat.reduceEqDiff, Nat.reduceAdd, Nat.reduceLeDiff, Nat.reduceMul, Nat.reduceBEq, Nat.reduceBneDiff, Nat.reduceLT, Nat.reduceSub]
     exact D.Le.sc_eq (by rw [all_of_take hi j2])
  ·simp +contextual -implicitDefEqProofs only [hk2, b3, hn, List.length_map, ha, bne, Bool.not_true, Bool.not_false, Bool.true_and, Bool.false_and, Bool.and_true, Bool.and_false, Bool.true_or, Bool.false_or, Bool.or_true, Bool.or_false, go_sem, eI, eB, ↓reduceIte, Nat.reduceEqDiff, Nat.reduceAdd, Nat.reduceLeDiff, Nat.reduceMul, Nat.reduceBEq, Nat.reduceBneDiff, Nat.reduceLT, Nat.reduceSub]
   refine callQ_le (es := [eG g, .pt (eE c) 0]) rfl ⟨D.LeA.refl _, D.LeA.sub (sz := 3) (by simp [D.size, D.sizeL]) rfl (by omega) (by rw [eE_eta]; rfl), trivial⟩ (hc4 g c hg) ?_
   cases hc : condOk g c
   ·simp +contextual -implicitDefEqProofs only [hk2, b3, hn, List.length_map, ha, hc, bne, Bool.not_true, Bool.not_false, Bool.true_and, Bool.false_and, Bool.and_true, Bool.and_false, Bool.true_or, Bool.false_or, Bool.or_true, Bool.or_false, go_sem, eI, eB, ↓reduceIte, Nat.reduceEqDiff, Nat.reduceAdd, Nat.reduceLeDiff, Nat.reduceMul, Nat.reduceBEq, Nat.reduceBneDiff, Nat.reduceLT, Nat.reduceSub]
    exact D.Le.sc_eq (by simp [formP, hk, b3, hn, numP, ha, hc, cP])
   ·simp +contextual -implicitDefEqProofs only [hk2, b3, hn, List.length_map, ha, hc, bne, Bool.not_true, Bool.not_false, Bool.true_and, Bool.false_and, Bool.and_true, Bool.and_false, Bool.true_or, Bool.false_or, Bool.or_true, Bool.or_false, go_sem, eI, eB, ↓reduceIte, Nat.reduceEqDiff, Nat.reduceAdd, Nat.reduceLeDiff, Nat.reduceMul, Nat.reduceBEq, Nat.reduceBneDiff, Nat.reduceLT, Nat.reduceSub]
    refine callQ_self ?_ (hc3 k) ?_
    ·exact rfl
    simp +contextual -implicitDefEqProofs only [hk2, b3, hn, List.length_map, ha, hc, bne, Bool.not_true, Bool.not_false, Bool.true_and, Bool.false_and, Bool.and_true, Bool.and_false, Bool.true_or, Bool.false_or, Bool.or_true, Bool.or_false, go_sem, eI, eB, ↓reduceIte, Nat.reduceEqDiff, Nat.reduceAdd, Nat.reduceLeDiff, Nat.reduceMul, Nat.reduceBEq, Nat.reduceBneDiff, Nat.reduceLT, Nat.reduceSub]
    have hF : formP g k n c ks = true := by simp [formP, hk, b3, hn, numP, ha, hc, cP]
    rw [hF, Bool.true_and]
    refine vc_on (α := Nat) [4, 5, 75, 76, 77, 78, 79, 80, 81, 82, 83, 84, 85, 86, 87, 88, 89, 90, 91, 92] (fun i => [(5, .im none (.sc (.int .i64 i)))]) (fun i => i ≤ ks.length ∧ (ks.take i).all (treeP g) = true) (fun i => ks.length - i) 0 (by simp only [subEnv, go_sem, ↓reduceIte, Nat.reduceEqDiff, List.length_map]; simp) ⟨Nat.zero_le _, rfl⟩ ?_
    rintro i ⟨j1, j2⟩
    by_cases hi : i < ks.length
    ·have e1 := at_map (f := eP) hi
     simp +contextual -implicitDefEqProofs only [e1, hi, eP_size, Int.ofNat_lt, List.length_map, Int.natCast_nonneg, Nat.zero_lt_one, bne, Bool.not_true, Bool.not_false, Bool.true_and, Bool.false_and, Bool.and_true, Bool.and_false, Bool.true_or, Bool.false_or, Bool.or_true, Bool.or_false, go_sem, eI, eB, ↓reduceIte, Nat.reduceEqDiff, Nat.reduceAdd, Nat.reduceLeDiff, Nat.reduceMul, Nat.reduceBEq, Nat.reduceBneDiff, Nat.reduceLT, Nat.reduceSub]
     refine callQ_self ?_ (ih ks[i] (List.getElem_mem _)) ?_
     ·exact rfl
     cases hx : treeP g ks[i]
     ·simp +contextual -implicitDefEqProofs only [bne, Bool.not_true, Bool.not_false, Bool.true_and, Bool.false_and, Bool.and_true, Bool.and_false, Bool.true_or, Bool.false_or, Bool.or_true, Bool.or_false, go_sem, eI, eB, ↓reduceIte, Nat.reduceEqDiff, Nat.reduceAdd, Nat.reduceLeDiff, Nat.reduceMul, Nat.reduceBEq, Nat.reduceBneDiff, Nat.reduceLT, Nat.reduceSub]
      exact D.Le.sc_eq (by rw [all_fail hi hx])
     ·simp +contextual -implicitDefEqProofs only [bne, Bool.not_true, Bool.not_false, Bool.true_and, Bool.false_and, Bool.and_true, Bool.and_false, Bool.true_or, Bool.false_or, Bool.or_true, Bool.or_false, go_sem, eI, eB, ↓reduceIte, Nat.reduceEqDiff, Nat.reduceAdd, Nat.reduceLeDiff, Nat.reduceMul, Nat.reduceBEq, Nat.reduceBneDiff, Nat.reduceLT, Nat.reduceSub]
      rw [wrap_i64 (by omega) (by omega)]
      exact ⟨i + 1, ⟨by omega, all_take_succ hi j2 hx⟩, by omega, Ent.env (by simp only [subEnv, go_sem, ↓reduceIte, Nat.reduceEqDiff, List.length_map]; simp)⟩
    ·simp +contextual -implicitDefEqProofs only [hi, Int.ofNat_lt, List.length_map, Int.natCast_nonneg, bne, Bool.not_true, Bool.not_false, Bool.true_and, Bool.false_and, Bool.and_true, Bool.and_false, Bool.true_or, Bool.false_or, Bool.or_true, Bool.or_false, go_sem, eI, eB, ↓reduceIte, Nat.reduceEqDiff, Nat.reduceAdd, Nat.reduceLeDiff, Nat.reduceMul, Nat.reduceBEq, Nat.reduceBneDiff, Nat.reduceLT, Nat.reduceSub]
     exact D.Le.sc_eq (by rw [all_of_take hi j2])
 ·simp +contextual -implicitDefEqProofs only [hk2, b3, List.length_map, bne, Bool.not_true, Bool.not_false, Bool.true_and, Bool.false_and, Bool.and_true, Bool.and_false, Bool.true_or, Bool.false_or, Bool.or_true, Bool.or_false, go_sem, eI, eB, ↓reduceIte, Nat.reduceEqDiff, Nat.reduceAdd, Nat.reduceLeDiff, Nat.reduceMul, Nat.reduceBEq, Nat.reduceBneDiff, Nat.reduceLT, Nat.reduceSub]
  refine callQ_self ?_ (hc2 n 0 (IntKind.i64.wrap (g.2 - 1))) ?_
  ·exact rfl
  cases hw : isIn n 0 (IntKind.i64.wrap (g.2 - 1))
  ·simp +contextual -implicitDefEqProofs only [b3, hw, List.length_map, bne, Bool.not_true, Bool.not_false, Bool.true_and, Bool.false_and, Bool.and_true, Bool.and_false, Bool.true_or, Bool.false_or, Bool.or_true, Bool.or_false, go_sem, eI, eB, ↓reduceIte, Nat.reduceEqDiff, Nat.reduceAdd, Nat.reduceLeDiff, Nat.reduceMul, Nat.reduceBEq, Nat.reduceBneDiff, Nat.reduceLT, Nat.reduceSub]
   exact D.Le.sc_eq (by simp [formP, hk, b3, hw, numP])
  simp +contextual -implicitDefEqProofs only [b3, hw, List.length_map, bne, Bool.not_true, Bool.not_false, Bool.true_and, Bool.false_and, Bool.and_true, Bool.and_false, Bool.true_or, Bool.false_or, Bool.or_true, Bool.or_false, go_sem, eI, eB, ↓reduceIte, Nat.reduceEqDiff, Nat.reduceAdd, Nat.reduceLeDiff, Nat.reduceMul, Nat.reduceBEq, Nat.reduceBneDiff, Nat.reduceLT, Nat.reduceSub]
  refine callQ_self ?_ (hc3 k) ?_
  ·exact rfl
  cases ha : asksP k
  ·simp +contextual -implicitDefEqProofs only [b3, hw, List.length_map, ha, bne, Bool.not_true, Bool.not_false, Bool.true_and, Bool.false_and, Bool.and_true, Bool.and_false, Bool.true_or, Bool.false_or, Bool.or_true, Bool.or_false, go_sem, eI, eB, ↓reduceIte, Nat.reduceEqDiff, Nat.reduceAdd, Nat.reduceLeDiff, Nat.reduceMul, Nat.reduceBEq, Nat.reduceBneDiff, Nat.reduceLT, Nat.reduceSub]
   refine callQ_self ?_ (hc3 k) ?_
   ·exact rfl
   simp +contextual -implicitDefEqProofs only [b3, hw, List.length_map, ha, bne, Bool.not_true, Bool.not_false, Bool.true_and, Bool.false_and, Bool.and_true, Bool.and_false, Bool.true_or, Bool.false_or, Bool.or_true, Bool.or_false, go_sem, eI, eB, ↓reduceIte, Nat.reduceEqDiff, Nat.reduceAdd, Nat.reduceLeDiff, Nat.reduceMul, Nat.reduceBEq, Nat.reduceBneDiff, Nat.reduceLT, Nat.reduceSub]
   refine callQ_le (es := [.pt (eE c) 0]) rfl ⟨D.LeA.sub (sz := 3) (by simp [D.size, D.sizeL]) rfl (by omega) (by rw [eE_eta]; rfl), trivial⟩ (hc5 c) ?_
   cases hc : noneE c
   ·simp +contextual -implicitDefEqProofs only [b3, hw, List.length_map, ha, hc, bne, Bool.not_true, Bool.not_false, Bool.true_and, Bool.false_and, Bool.and_true, Bool.and_false, Bool.true_or, Bool.false_or, Bool.or_true, Bool.or_false, go_sem, eI, eB, ↓reduceIte, Nat.reduceEqDiff, Nat.reduceAdd, Nat.reduceLeDiff, Nat.reduceMul, Nat.reduceBEq, Nat.reduceBneDiff, Nat.reduceLT, Nat.reduceSub]
    exact D.Le.sc_eq (by simp [formP, hk, b3, hw, numP, ha, hc, cP])
   ·simp +contextual -implicitDefEqProofs only [b3, hw, List.length_map, ha, hc, bne, Bool.not_true, Bool.not_false, Bool.true_and, Bool.false_and, Bool.and_true, Bool.and_false, Bool.true_or, Bool.false_or, Bool.or_true, Bool.or_false, go_sem, eI, eB, ↓reduceIte, Nat.reduceEqDiff, Nat.reduceAdd, Nat.reduceLeDiff, Nat.reduceMul, Nat.reduceBEq, Nat.reduceBneDiff, Nat.reduceLT, Nat.reduceSub]
    have hF : formP g k n c ks = true := by simp [formP, hk, b3, hw, numP, ha, hc, cP]
    rw [hF, Bool.true_and]
    refine vc_on (α := Nat) [4, 5, 75, 76, 77, 78, 79, 80, 81, 82, 83, 84, 85, 86, 87, 88, 89, 90, 91, 92] (fun i => [(5, .im none (.sc (.int .i64 i)))]) (fun i => i ≤ ks.length ∧ (ks.take i).all (treeP g) = true) (fun i => ks.length - i) 0 (by simp only [subEnv, go_sem, ↓reduceIte, Nat.reduceEqDiff, List.length_map]; simp) ⟨Nat.zero_le _, rfl⟩ ?_
    rintro i ⟨j1, j2⟩
    by_cases hi : i < ks.length
    ·have e1 := at_map (f := eP) hi
     simp +contextual -implicitDefEqProofs only [e1, hi, eP_size, Int.ofNat_lt, List.length_map, Int.natCast_nonneg, Nat.zero_lt_one, bne, Bool.not_true, Bool.not_false, Bool.true_and, Bool.false_and, Bool.and_true, Bool.and_false, Bool.true_or, Bool.false_or, Bool.or_true, Bool.or_false, go_sem, eI, eB, ↓reduceIte, Nat.reduceEqDiff, Nat.reduceAdd, Nat.reduceLeDiff, Nat.reduceMul, Nat.reduceBEq, Nat.reduceBneDiff, Nat.reduceLT, Nat.reduceSub]
     refine callQ_self ?_ (ih ks[i] (List.getElem_mem _)) ?_
     ·exact rfl
     cases hx : treeP g ks[i]
     ·simp +contextual -implicitDefEqProofs only [bne, Bool.not_true, Bool.not_false, Bool.true_and, Bool.false_and, Bool.and_true, Bool.and_false, Bool.true_or, Bool.false_or, Bool.or_true, Bool.or_false, go_sem, eI, eB, ↓reduceIte, Nat.reduceEqDiff, Nat.reduceAdd, Nat.reduceLeDiff, Nat.reduceMul, Nat.reduceBEq, Nat.reduceBneDiff, Nat.reduceLT, Nat.reduceSub]
      exact D.Le.sc_eq (by rw [all_fail hi hx])
     ·simp +contextual -implicitDefEqProofs only [bne, Bool.not_true, Bool.not_false, Bool.true_and, Bool.false_and, Bool.and_true, Bool.and_false, Bool.true_or, Bool.false_or, Bool.or_true, Bool.or_false, go_sem, eI, eB, ↓reduceIte, Nat.reduceEqDiff, Nat.reduceAdd, Nat.reduceLeDiff, Nat.reduceMul, Nat.reduceBEq, Nat.reduceBneDiff, Nat.reduceLT, Nat.reduceSub]
      rw [wrap_i64 (by omega) (by omega)]
      exact ⟨i + 1, ⟨by omega, all_take_succ hi j2 hx⟩, by omega, Ent.env (by simp only [subEnv, go_sem, ↓reduceIte, Nat.reduceEqDiff, List.length_map]; simp)⟩
    ·simp +contextual -implicitDefEqProofs only [hi, Int.ofNat_lt, List.length_map, Int.natCast_nonneg, bne, Bool.not_true, Bool.not_false, Bool.true_and, Bool.false_and, Bool.and_true, Bool.and_false, Bool.true_or, Bool.false_or, Bool.or_true, Bool.or_false, go_sem, eI, eB, ↓reduceIte, Nat.reduceEqDiff, Nat.reduceAdd, Nat.reduceLeDiff, Nat.reduceMul, Nat.reduceBEq, Nat.reduceBneDiff, Nat.reduceLT, Nat.reduceSub]
     exact D.Le.sc_eq (by rw [all_of_take hi j2])
  ·simp +contextual -implicitDefEqProofs only [b3, hw, List.length_map, ha, bne, Bool.not_true, Bool.not_false, Bool.true_and, Bool.false_and, Bool.and_true, Bool.and_false, Bool.true_or, Bool.false_or, Bool.or_true, Bool.or_false, go_sem, eI, eB, ↓reduceIte, Nat.reduceEqDiff, Nat.reduceAdd, Nat.reduceLeDiff, Nat.reduceMul, Nat.reduceBEq, Nat.reduceBneDiff, Nat.reduceLT, Nat.reduceSub]
   refine callQ_le (es := [eG g, .pt (eE c) 0]) rfl ⟨D.LeA.refl _, D.LeA.sub (sz := 3) (by simp [D.size, D.sizeL]) rfl (by omega) (by rw [eE_eta]; rfl), trivial⟩ (hc4 g c hg) ?_
   cases hc : condOk g c
   ·simp +contextual -implicitDefEqProofs only [b3, hw, List.length_map, ha, hc, bne, Bool.not_true, Bool.not_false, Bool.true_and, Bool.false_and, Bool.and_true, Bool.and_false, Bool.true_or, Bool.false_or, Bool.or_true, Bool.or_false, go_sem, eI, eB, ↓reduceIte, Nat.reduceEqDiff, Nat.reduceAdd, Nat.reduceLeDiff, Nat.reduceMul, Nat.reduceBEq, Nat.reduceBneDiff, Nat.reduceLT, Nat.reduceSub]
    exact D.Le.sc_eq (by simp [formP, hk, b3, hw, numP, ha, hc, cP])
   ·simp +contextual -implicitDefEqProofs only [b3, hw, List.length_map, ha, hc, bne, Bool.not_true, Bool.not_false, Bool.true_and, Bool.false_and, Bool.and_true, Bool.and_false, Bool.true_or, Bool.false_or, Bool.or_true, Bool.or_false, go_sem, eI, eB, ↓reduceIte, Nat.reduceEqDiff, Nat.reduceAdd, Nat.reduceLeDiff, Nat.reduceMul, Nat.reduceBEq, Nat.reduceBneDiff, Nat.reduceLT, Nat.reduceSub]
    refine callQ_self ?_ (hc3 k) ?_
    ·exact rfl
    simp +contextual -implicitDefEqProofs only [b3, hw, List.length_map, ha, hc, bne, Bool.not_true, Bool.not_false, Bool.true_and, Bool.false_and, Bool.and_true, Bool.and_false, Bool.true_or, Bool.false_or, Bool.or_true, Bool.or_false, go_sem, eI, eB, ↓reduceIte, Nat.reduceEqDiff, Nat.reduceAdd, Nat.reduceLeDiff, Nat.reduceMul, Nat.reduceBEq, Nat.reduceBneDiff, Nat.reduceLT, Nat.reduceSub]
    have hF : formP g k n c ks = true := by simp [formP, hk, b3, hw, numP, ha, hc, cP]
    rw [hF, Bool.true_and]
    refine vc_on (α := Nat) [4, 5, 75, 76, 77, 78, 79, 80, 81, 82, 83, 84, 85, 86, 87, 88, 89, 90, 91, 92] (fun i => [(5, .im none (.sc (.int .i64 i)))]) (fun i => i ≤ ks.length ∧ (ks.take i).all (treeP g) = true) (fun i => ks.length - i) 0 (by simp only [subEnv, go_sem, ↓reduceIte, Nat.reduceEqDiff, List.length_map]; simp) ⟨Nat.zero_le _, rfl⟩ ?_
    rintro i ⟨j1, j2⟩
    by_cases hi : i < ks.length
    ·have e1 := at_map (f := eP) hi
     simp +contextual -implicitDefEqProofs only [e1, hi, eP_size, Int.ofNat_lt, List.length_map, Int.natCast_nonneg, Nat.zero_lt_one, bne, Bool.not_true, Bool.not_false, Bool.true_and, Bool.false_and, Bool.and_true, Bool.and_false, Bool.true_or, Bool.false_or, Bool.or_true, Bool.or_false, go_sem, eI, eB, ↓reduceIte, Nat.reduceEqDiff, Nat.reduceAdd, Nat.reduceLeDiff, Nat.reduceMul, Nat.reduceBEq, Nat.reduceBneDiff, Nat.reduceLT, Nat.reduceSub]
     refine callQ_self ?_ (ih ks[i] (List.getElem_mem _)) ?_
     ·exact rfl
     cases hx : treeP g ks[i]
     ·simp +contextual -implicitDefEqProofs only [bne, Bool.not_true, Bool.not_false, Bool.true_and, Bool.false_and, Bool.and_true, Bool.and_false, Bool.true_or, Bool.false_or, Bool.or_true, Bool.or_false, go_sem, eI, eB, ↓reduceIte, Nat.reduceEqDiff, Nat.reduceAdd, Nat.reduceLeDiff, Nat.reduceMul, Nat.reduceBEq, Nat.reduceBneDiff, Nat.reduceLT, Nat.reduceSub]
      exact D.Le.sc_eq (by rw [all_fail hi hx])
     ·simp +contextual -implicitDefEqProofs only [bne, Bool.not_true, Bool.not_false, Bool.true_and, Bool.false_and, Bool.and_true, Bool.and_false, Bool.true_or, Bool.false_or, Bool.or_true, Bool.or_false, go_sem, eI, eB, ↓reduceIte, Nat.reduceEqDiff, Nat.reduceAdd, Nat.reduceLeDiff, Nat.reduceMul, Nat.reduceBEq, Nat.reduceBneDiff, Nat.reduceLT, Nat.reduceSub]
      rw [wrap_i64 (by omega) (by omega)]
      exact ⟨i + 1, ⟨by omega, all_take_succ hi j2 hx⟩, by omega, Ent.env (by simp only [subEnv, go_sem, ↓reduceIte, Nat.reduceEqDiff, List.length_map]; simp)⟩
    ·simp +contextual -implicitDefEqProofs only [hi, Int.ofNat_lt, List.length_map, Int.natCast_nonneg, bne, Bool.not_true, Bool.not_false, Bool.true_and, Bool.false_and, Bool.and_true, Bool.and_false, Bool.true_or, Bool.false_or, Bool.or_true, Bool.or_false, go_sem, eI, eB, ↓reduceIte, Nat.reduceEqDiff, Nat.reduceAdd, Nat.reduceLeDiff, Nat.reduceMul, Nat.reduceBEq, Nat.reduceBneDiff, Nat.reduceLT, Nat.reduceSub]
     exact D.Le.sc_eq (by rw [all_of_take hi j2])

def k_l06Ok (f1 f2 f3 f4 : Nat) : RC := (.seq (.reg false [⟨none, .box 2 2 (.t 0)⟩, ⟨none, .mv 4 (.c (.sc (.bool false)))⟩]) ((.seq (.reg false [⟨none, .ld 5 true 2 (.t 2)⟩, ⟨none, .call (some 6) f1 [(.t 5)]⟩, ⟨none, .mv 7 (.t 6)⟩, ⟨some (7, true), .mv 8 (.t 1)⟩, ⟨some (7, true), .call (some 9) f2 [(.t 8), (.c (.sc (.int .i64 60)))]⟩, ⟨some (7, true), .bin 10 .geq (.t 9) (.c (.sc (.int .i64 0)))⟩, ⟨none, .pick 11 (.t 7) (.t 10) (.c (.sc (.bool false)))⟩, ⟨none, .mv 12 (.t 11)⟩, ⟨some (12, true), .mv 13 (.t 1)⟩, ⟨some (12, true), .call (some 14) f3 [(.t 13)]⟩, ⟨some (12, true), .bin 15 .leq (.t 14) (.c (.sc (.int .i64 20)))⟩, ⟨none, .pick 16 (.t 12) (.t 15) (.c (.sc (.bool false)))⟩, ⟨none, .mv 17 (.t 16)⟩, ⟨some (17, true), .ld 18 true 2 (.t 2)⟩, ⟨some (17, true), .mv 19 (.t 1)⟩, ⟨some (17, true), .call (some 20) f4 [(.t 18), (.t 19)]⟩, ⟨none, .pick 21 (.t 17) (.t 20) (.c (.sc (.bool false)))⟩, ⟨none, .mv 4 (.t 21)⟩]) (.ret))))
def K_l06Ok (P : Program) (fno : Nat) : Prop := ∀ (g : Int × Int) (e : Pg), AF P fno [eG g, .pt (eP e) 0] (.own (eB (okG g && okP g e)))
theorem a_l06Ok {P : Program} (hm : P.follows .mixedOrders = true) {g f1 f2 f3 f4 : Nat} (hr : resF P g = some (22, k_l06Ok f1 f2 f3 f4, [.t 4])) (hc1 : K_l01Sig P f1) (hc2 : K_l06Left P f2) (hc3 : K_l06Depth P f3) (hc4 : K_l06Tree P f4) : K_l06Ok P g := by
 intro g e
 refine af_of_res hr hm rfl fun hb => ?_
 simp +contextual -implicitDefEqProofs only [k_l06Ok, eG, go_sem, eI, eB, ↓reduceIte, Nat.reduceEqDiff, Nat.reduceAdd, Nat.reduceLeDiff, Nat.reduceMul, Nat.reduceBEq, Nat.reduceBneDiff, Nat.reduceLT, Nat.reduceSub]
 refine callQ_self ?_ (hc1 g) ?_
 ·exact rfl
 cases hg : okG g
 ·simp +contextual -implicitDefEqProofs only [hg, bne, Bool.not_true, Bool.not_false, Bool.true_and, Bool.false_and, Bool.and_true, Bool.and_false, Bool.true_or, Bool.false_or, Bool.or_true, Bool.or_false, go_sem, eI, eB, ↓reduceIte, Nat.reduceEqDiff, Nat.reduceAdd, Nat.reduceLeDiff, Nat.reduceMul, Nat.reduceBEq, Nat.reduceBneDiff, Nat.reduceLT, Nat.reduceSub]
 simp +contextual -implicitDefEqProofs only [hg, bne, Bool.not_true, Bool.not_false, Bool.true_and, Bool.false_and, Bool.and_true, Bool.and_false, Bool.true_or, Bool.false_or, Bool.or_true, Bool.or_false, go_sem, eI, eB, ↓reduceIte, Nat.reduceEqDiff, Nat.reduceAdd, Nat.reduceLeDiff, Nat.reduceMul, Nat.reduceBEq, Nat.reduceBneDiff, Nat.reduceLT, Nat.reduceSub]
 refine callQ_self ?_ (hc2 e 60 (by omega) (by omega)) ?_
 ·exact rfl
 have hl := leftP_in e 60 (by omega)
 by_cases h1 : sizeP e ≤ 60
 ·have h1' : 0 ≤ leftP e 60 := hl.2.2.1.2 (by omega)
  simp +contextual -implicitDefEqProofs only [okP, h1, h1', bne, Bool.not_true, Bool.not_false, Bool.true_and, Bool.false_and, Bool.and_true, Bool.and_false, Bool.true_or, Bool.false_or, Bool.or_true, Bool.or_false, go_sem, eI, eB, ↓reduceIte, Nat.reduceEqDiff, Nat.reduceAdd, Nat.reduceLeDiff, Nat.reduceMul, Nat.reduceBEq, Nat.reduceBneDiff, Nat.reduceLT, Nat.reduceSub]
  refine callQ_self ?_ (hc3 e (by omega)) ?_
  ·exact rfl
  by_cases h2 : depthP e ≤ 20
  ·have h2' : (depthP e : Int) ≤ 20 := by omega
   simp +contextual -implicitDefEqProofs only [okP, h1, h2, h2', bne, Bool.not_true, Bool.not_false, Bool.true_and, Bool.false_and, Bool.and_true, Bool.and_false, Bool.true_or, Bool.false_or, Bool.or_true, Bool.or_false, go_sem, eI, eB, ↓reduceIte, Nat.reduceEqDiff, Nat.reduceAdd, Nat.reduceLeDiff, Nat.reduceMul, Nat.reduceBEq, Nat.reduceBneDiff, Nat.reduceLT, Nat.reduceSub]
   refine callQ_self ?_ (hc4 g e hg) ?_
   ·exact rfl
   simp +contextual -implicitDefEqProofs only [okP, h1, h2, bne, Bool.not_true, Bool.not_false, Bool.true_and, Bool.false_and, Bool.and_true, Bool.and_false, Bool.true_or, Bool.false_or, Bool.or_true, Bool.or_false, go_sem, eI, eB, ↓reduceIte, Nat.reduceEqDiff, Nat.reduceAdd, Nat.reduceLeDiff, Nat.reduceMul, Nat.reduceBEq, Nat.reduceBneDiff, Nat.reduceLT, Nat.reduceSub]
  ·have h2' : ¬ (depthP e : Int) ≤ 20 := by omega
   simp +contextual -implicitDefEqProofs only [okP, h1, h2, h2', bne, Bool.not_true, Bool.not_false, Bool.true_and, Bool.false_and, Bool.and_true, Bool.and_false, Bool.true_or, Bool.false_or, Bool.or_true, Bool.or_false, go_sem, eI, eB, ↓reduceIte, Nat.reduceEqDiff, Nat.reduceAdd, Nat.reduceLeDiff, Nat.reduceMul, Nat.reduceBEq, Nat.reduceBneDiff, Nat.reduceLT, Nat.reduceSub]
 ·have h1' : ¬ 0 ≤ leftP e 60 := fun h => h1 (by have := hl.2.2.1.1 h; omega)
  simp +contextual -implicitDefEqProofs only [okP, h1, h1', bne, Bool.not_true, Bool.not_false, Bool.true_and, Bool.false_and, Bool.and_true, Bool.and_false, Bool.true_or, Bool.false_or, Bool.or_true, Bool.or_false, go_sem, eI, eB, ↓reduceIte, Nat.reduceEqDiff, Nat.reduceAdd, Nat.reduceLeDiff, Nat.reduceMul, Nat.reduceBEq, Nat.reduceBneDiff, Nat.reduceLT, Nat.reduceSub]

end Go.Ax
