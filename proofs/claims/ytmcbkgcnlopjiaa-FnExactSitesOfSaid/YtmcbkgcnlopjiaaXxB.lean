/- Contracts of functions of the seat, proved over the engine. No condition. -/
import Derived.Test.YtmcbkgcnlopjiaaXxA
import Derived.Test.YtmcbkgcnlopjiaaEnH
set_option linter.unusedSimpArgs false
set_option linter.unusedVariables false
set_option linter.unnecessarySimpa false
namespace Go.Ax
set_option maxRecDepth 20000
set_option maxHeartbeats 4000000
def kidsP (k : Int) : Int := if k = 1 then 0 else if k = 2 then 0 else if k = 3 then 0 else if k = 4 then 0 else if k = 5 then 2 else if k = 6 then 2 else if k = 7 then 1 else -1
def asksP (k : Int) : Bool := (k == 4) || ((k == 6) || (k == 7))
def numP (g : Int × Int) (k n : Int) : Bool := ((k == 3) && isIn n 0 (IntKind.i64.wrap (g.2 - 1))) || (!(k == 3) && (n == 0))
def cP (g : Int × Int) (k : Int) (c : Ex) : Bool := (asksP k && condOk g c) || (!asksP k && noneE c)
def formP (g : Int × Int) (k n : Int) (c : Ex) (ks : List Pg) : Bool := (kidsP k == ks.length) && (numP g k n && cP g k c)
mutual
def sizeP : Pg → Nat
 | .mk _ _ _ _ ks => 1 + sizePs ks
def sizePs : List Pg → Nat
 | [] => 0
 | e :: es => sizeP e + sizePs es
end
theorem sizeP_mk (k n : Int) (c : Ex) (nn : Option Bool) (ks : List Pg) : sizeP (.mk k n c nn ks) = 1 + sizePs ks := by rw [sizeP]
mutual
def depthP : Pg → Nat
 | .mk _ _ _ _ ks => 1 + depthPs ks
def depthPs : List Pg → Nat
 | [] => 0
 | e :: es => max (depthP e) (depthPs es)
end
theorem depthP_mk (k n : Int) (c : Ex) (nn : Option Bool) (ks : List Pg) : depthP (.mk k n c nn ks) = 1 + depthPs ks := by rw [depthP]
mutual
def treeP (g : Int × Int) : Pg → Bool
 | .mk k n c _ ks => formP g k n c ks && treePs g ks
def treePs (g : Int × Int) : List Pg → Bool
 | [] => true
 | e :: es => treeP g e && treePs g es
end
theorem treePs_eq (g : Int × Int) : ∀ ks : List Pg, treePs g ks = ks.all (treeP g)
 | [] => rfl
 | e :: es => by simp [treePs, treePs_eq g es]
theorem treeP_mk (g : Int × Int) (k n : Int) (c : Ex) (nn : Option Bool) (ks : List Pg) : treeP g (.mk k n c nn ks) = (formP g k n c ks && ks.all (treeP g)) := by rw [treeP, treePs_eq]
mutual
def shP (g : Int × Int) : Pg → Int → Int → Option Int
 | .mk k n c _ ks => fun N d => if N = 0 ∨ d = 0 ∨ formP g k n c ks = false then none else shPs g ks (N - 1) (d - 1)
def shPs (g : Int × Int) : List Pg → Int → Int → Option Int
 | [] => fun N _ => some N
 | e :: es => fun N d => match shP g e N d with | none => none | some m => shPs g es m d
end
theorem shP_mk (g : Int × Int) (k n : Int) (c : Ex) (nn : Option Bool) (ks : List Pg) (N d : Int) : shP g (.mk k n c nn ks) N d = if N = 0 ∨ d = 0 ∨ formP g k n c ks = false then none else shPs g ks (N - 1) (d - 1) := by rw [shP]

theorem shP_iff (g : Int × Int) : ∀ (e : Pg) (N d : Int), 0 ≤ N → 0 ≤ d → shP g e N d = ok3 (treeP g e) (sizeP e) N (depthP e) d :=
 Pg.ind fun k n c nn ks ih N d hN hd => by
  have hs : ∀ (l : List Pg), (∀ e ∈ l, ∀ N d : Int, 0 ≤ N → 0 ≤ d → shP g e N d = ok3 (treeP g e) (sizeP e) N (depthP e) d) → ∀ N d : Int, 0 ≤ N → 0 ≤ d →
    shPs g l N d = ok3 (l.all (treeP g)) (sizePs l) N (depthPs l) d := by
   intro l
   induction l with
   | nil => intro _ N d h1 h2; simp [ok3, shPs, sizePs, depthPs, h1, h2]
   | cons e l ihl =>
    intro hl N d h1 h2
    simp only [shPs, hl e (by simp) N d h1 h2, List.all_cons, sizePs, depthPs]
    unfold ok3
    by_cases hc : treeP g e = true ∧ (sizeP e : Int) ≤ N ∧ (depthP e : Int) ≤ d
    ·rw [if_pos hc]
     simp only
     rw [ihl (fun x hx => hl x (by simp [hx])) (N - sizeP e) d (by omega) h2]
     unfold ok3
     by_cases hc2 : l.all (treeP g) = true ∧ (sizePs l : Int) ≤ N - sizeP e ∧ (depthPs l : Int) ≤ d
     ·rw [if_pos hc2]
      split
      ·congr 1
       omega
      ·next hne => exact absurd ⟨by simp [hc.1, hc2.1], by omega, by omega⟩ hne
     ·rw [if_neg hc2, if_neg]
      rintro ⟨a, b, c⟩
      simp only [bA] at a
      exact hc2 ⟨a.2, by omega, by omega⟩
    ·rw [if_neg hc, if_neg]
     rintro ⟨a, b, c⟩
     simp only [bA] at a
     exact hc ⟨a.1, by omega, by omega⟩
  rw [shP_mk, treeP_mk, sizeP_mk, depthP_mk]
  unfold ok3
  by_cases h0 : N = 0 ∨ d = 0 ∨ formP g k n c ks = false
  ·rw [if_pos h0, if_neg]
   rintro ⟨a, b, c⟩
   simp only [bA] at a
   rcases h0 with h0 | h0 | h0
   ·omega
   ·omega
   ·rw [a.1] at h0; cases h0
  ·rw [if_neg h0, hs ks ih (N - 1) (d - 1) (by omega) (by omega)]
   unfold ok3
   have hf : formP g k n c ks = true := by
    cases h : formP g k n c ks
    ·exact absurd (.inr (.inr h)) h0
    ·rfl
   rw [hf, bI]
   by_cases hc : ks.all (treeP g) = true ∧ (sizePs ks : Int) ≤ N - 1 ∧ (depthPs ks : Int) ≤ d - 1
   ·rw [if_pos hc]
    split
    ·congr 1
     omega
    ·next hne => exact absurd ⟨hc.1, by omega, by omega⟩ hne
   ·rw [if_neg hc, if_neg]
    rintro ⟨a, b, c⟩
    exact hc ⟨a, by omega, by omega⟩
def okP (g : Int × Int) (e : Pg) : Bool := decide (sizeP e ≤ 60) && (decide (depthP e ≤ 20) && treeP g e)
mutual
def leftP : Pg → Int → Int
 | .mk _ _ _ _ ks => fun l => leftPs ks (l - 1)
def leftPs : List Pg → Int → Int
 | [] => fun l => l
 | e :: es => fun l => if l < 0 then l else leftPs es (leftP e l)
end
theorem leftP_mk (k n : Int) (c : Ex) (nn : Option Bool) (ks : List Pg) (l : Int) : leftP (.mk k n c nn ks) l = leftPs ks (l - 1) := by rw [leftP]
theorem leftP_in : ∀ (e : Pg) (l : Int), 0 ≤ l → -1 ≤ leftP e l ∧ leftP e l ≤ l - 1 ∧ (0 ≤ leftP e l ↔ (sizeP e : Int) ≤ l) ∧ (0 ≤ leftP e l → leftP e l = l - sizeP e) :=
 Pg.ind fun k n c nn ks ih l h1 => by
  have hs : ∀ (q : List Pg), (∀ e ∈ q, ∀ (l : Int), 0 ≤ l → -1 ≤ leftP e l ∧ leftP e l ≤ l - 1 ∧ (0 ≤ leftP e l ↔ (sizeP e : Int) ≤ l) ∧ (0 ≤ leftP e l → leftP e l = l - sizeP e)) → ∀ l : Int, -1 ≤ l →
    -1 ≤ leftPs q l ∧ leftPs q l ≤ l ∧ (0 ≤ leftPs q l ↔ (sizePs q : Int) ≤ l) ∧ (0 ≤ leftPs q l → leftPs q l = l - sizePs q) := by
   intro q
   induction q with
   | nil => intro _ l h; simp [leftPs, sizePs]; omega
   | cons e q ihq =>
    intro hq l h
    simp only [leftPs, sizePs]
    by_cases hl : l < 0
    ·rw [if_pos hl]
     refine ⟨h, Int.le_refl _, ?_, ?_⟩ <;> omega
    ·rw [if_neg hl]
     have a := hq e (by simp) l (by omega)
     have b := ihq (fun x hx => hq x (by simp [hx])) (leftP e l) a.1
     refine ⟨b.1, by omega, ?_, ?_⟩
     ·constructor
      ·intro h0
       have := b.2.2.1.1 h0
       have h5 : 0 ≤ leftP e l := by omega
       have := a.2.2.2 h5
       omega
      ·intro h0
       have h5 : 0 ≤ leftP e l := a.2.2.1.2 (by omega)
       have := a.2.2.2 h5
       exact b.2.2.1.2 (by omega)
     ·intro h0
      have h3 := b.2.2.2 h0
      have := b.2.2.1.1 h0
      have h5 : 0 ≤ leftP e l := by omega
      have := a.2.2.2 h5
      omega
  have := hs ks ih (l - 1) (by omega)
  rw [leftP_mk, sizeP_mk]
  refine ⟨this.1, this.2.1, ?_, ?_⟩
  ·rw [this.2.2.1]; omega
  ·intro h0; rw [this.2.2.2 h0]; omega
theorem shP_some {g : Int × Int} {e : Pg} {N d m : Int} (hN : 0 ≤ N) (hd : 0 ≤ d) (h : shP g e N d = some m) : 0 ≤ m ∧ m ≤ N := by
 rw [shP_iff g e N d hN hd] at h
 unfold ok3 at h
 split at h
 ·next hc => injection h with h; omega
 ·cases h
theorem shPs_step {g : Int × Int} {ks : List Pg} {i : Nat} (hi : i < ks.length) (m d : Int) : shPs g (ks.drop i) m d = match shP g ks[i] m d with | none => none | some q => shPs g (ks.drop (i + 1)) q d := by
 rw [List.drop_eq_getElem_cons hi, shPs]
 first | done | rfl
theorem shP_ok (g : Int × Int) (e : Pg) : (shP g e 60 20).isSome = okP g e := by
 rw [shP_iff g e 60 20 (by omega) (by omega)]
 unfold ok3 okP
 by_cases h1 : sizeP e ≤ 60 <;> by_cases h2 : depthP e ≤ 20 <;> cases h3 : treeP g e
 all_goals simp [h1, h2]
 all_goals omega
theorem leftPs_neg {q : List Pg} {l : Int} (h : l < 0) : leftPs q l = l := by
 cases q with
 | nil => rfl
 | cons e q => simp [leftPs, h]
theorem leftPs_step {ks : List Pg} {i : Nat} (hi : i < ks.length) {m : Int} (h : ¬ m < 0) : leftPs (ks.drop i) m = leftPs (ks.drop (i + 1)) (leftP ks[i] m) := by
 rw [List.drop_eq_getElem_cons hi, leftPs]
 simp [h]
theorem sizeP_mem : ∀ {ks : List Pg} {e : Pg}, e ∈ ks → sizeP e ≤ sizePs ks
 | x :: ks, e, h => by
  rcases List.mem_cons.1 h with rfl | h
  ·simp [sizePs]
  ·have := sizeP_mem h; simp only [sizePs]; omega
theorem depthP_le : ∀ e : Pg, depthP e ≤ sizeP e :=
 Pg.ind fun k n c nn ks ih => by
  rw [depthP_mk, sizeP_mk]
  have : ∀ q : List Pg, (∀ e ∈ q, depthP e ≤ sizeP e) → depthPs q ≤ sizePs q := by
   intro q
   induction q with
   | nil => intro _; simp [depthPs]
   | cons e q ihq => intro h; have := ihq fun x hx => h x (by simp [hx]); have := h e (by simp); simp only [depthPs, sizePs]; omega
  have := this ks ih
  omega
theorem depthPs_step {ks : List Pg} {i : Nat} (hi : i < ks.length) : depthPs (ks.drop i) = max (depthP ks[i]) (depthPs (ks.drop (i + 1))) := by
 rw [List.drop_eq_getElem_cons hi, depthPs]

def k_progForm : RC := (.seq (.r [.v 2 (.ci 0), .v 3 .cf]) (.seq (.seq (.r [.m 4 0]) (.blk 0 (.seq (.seq (.r [.q 6 4 1, .m 5 6]) (.cond (.t 5) .skip (.seq (.r [.q 7 4 2, .m 5 7]) (.cond (.t 5) .skip (.r [.q 8 4 3, .m 5 8]))))) (.cond (.t 5) (.seq (.r [.v 2 (.ci 0), .v 3 .cf]) .ret) (.seq (.r [.q 10 4 4, .m 9 10]) (.cond (.t 9) (.seq (.r [.v 2 (.ci 0), .v 3 .ct]) .ret) (.seq (.r [.q 12 4 5, .m 11 12]) (.cond (.t 11) (.seq (.r [.v 2 (.ci 2), .v 3 .cf]) .ret) (.seq (.r [.q 14 4 6, .m 13 14]) (.cond (.t 13) (.seq (.r [.v 2 (.ci 2), .v 3 .ct]) .ret) (.seq (.r [.q 16 4 7, .m 15 16]) (.cond (.t 15) (.seq (.r [.v 2 (.ci 1), .v 3 .ct]) .ret) .skip)))))))))))) (.seq (.r [.o (.mv 2 (.c (.sc (.int .i64 (-1))))), .v 3 .cf]) .ret)))
def K_progForm (P : Program) (fno : Nat) : Prop := ∀ (k : Int), AF P fno [eI k] (.tup ([.own (eI (kidsP k)), .own (eB (asksP k))]))
theorem a_progForm {P : Program} (hm : P.follows .mixedOrders = true) {g : Nat} (hr : resF P g = some (17, k_progForm, [.t 2, .t 3])) : K_progForm P g := by
 intro k
 refine af_of_res hr hm rfl fun hb => ?_
 by_cases c1 : k = 1
 ·subst c1
  simp +contextual -implicitDefEqProofs only [k_progForm, bE, go_sem, eI, eB, ↓reduceIte, Nat.reduceEqDiff]
  try exact ⟨D.Le.sc_eq (congrArg (Value.int .i64) (by decide)), D.Le.sc_eq (congrArg Value.bool (by decide))⟩
 have b1 : (k == 1) = false := by simpa using c1
 by_cases c2 : k = 2
 ·subst c2
  simp +contextual -implicitDefEqProofs only [k_progForm, Int.reduceBEq, bE, go_sem, eI, eB, ↓reduceIte, Nat.reduceEqDiff]
  try exact ⟨D.Le.sc_eq (congrArg (Value.int .i64) (by decide)), D.Le.sc_eq (congrArg Value.bool (by decide))⟩
 have b2 : (k == 2) = false := by simpa using c2
 by_cases c3 : k = 3
 ·subst c3
  simp +contextual -implicitDefEqProofs only [k_progForm, Int.reduceBEq, bE, go_sem, eI, eB, ↓reduceIte, Nat.reduceEqDiff]
  try exact ⟨D.Le.sc_eq (congrArg (Value.int .i64) (by decide)), D.Le.sc_eq (congrArg Value.bool (by decide))⟩
 have b3 : (k == 3) = false := by simpa using c3
 by_cases c4 : k = 4
 ·subst c4
  simp +contextual -implicitDefEqProofs only [k_progForm, Int.reduceBEq, bE, go_sem, eI, eB, ↓reduceIte, Nat.reduceEqDiff]
  try exact ⟨D.Le.sc_eq (congrArg (Value.int .i64) (by decide)), D.Le.sc_eq (congrArg Value.bool (by decide))⟩
 have b4 : (k == 4) = false := by simpa using c4
 by_cases c5 : k = 5
 ·subst c5
  simp +contextual -implicitDefEqProofs only [k_progForm, Int.reduceBEq, bE, go_sem, eI, eB, ↓reduceIte, Nat.reduceEqDiff]
  try exact ⟨D.Le.sc_eq (congrArg (Value.int .i64) (by decide)), D.Le.sc_eq (congrArg Value.bool (by decide))⟩
 have b5 : (k == 5) = false := by simpa using c5
 by_cases c6 : k = 6
 ·subst c6
  simp +contextual -implicitDefEqProofs only [k_progForm, Int.reduceBEq, bE, go_sem, eI, eB, ↓reduceIte, Nat.reduceEqDiff]
  try exact ⟨D.Le.sc_eq (congrArg (Value.int .i64) (by decide)), D.Le.sc_eq (congrArg Value.bool (by decide))⟩
 have b6 : (k == 6) = false := by simpa using c6
 by_cases c7 : k = 7
 ·subst c7
  simp +contextual -implicitDefEqProofs only [k_progForm, Int.reduceBEq, bE, go_sem, eI, eB, ↓reduceIte, Nat.reduceEqDiff]
  try exact ⟨D.Le.sc_eq (congrArg (Value.int .i64) (by decide)), D.Le.sc_eq (congrArg Value.bool (by decide))⟩
 have b7 : (k == 7) = false := by simpa using c7
 simp +contextual -implicitDefEqProofs only [k_progForm, b1, b2, b3, b4, b5, b6, b7, go_sem, eI, eB, ↓reduceIte, Nat.reduceEqDiff]
 exact ⟨D.Le.sc_eq (by simp [kidsP, c1, c2, c3, c4, c5, c6, c7]), D.Le.sc_eq (by simp [asksP, c4, c6, c7])⟩

def k_l06Kids : RC := (.seq (.r [.v 2 (.ci 0)]) (.seq (.seq (.r [.m 3 0]) (.blk 0 (.seq (.seq (.r [.q 5 3 1, .m 4 5]) (.cond (.t 4) .skip (.seq (.r [.q 6 3 2, .m 4 6]) (.cond (.t 4) .skip (.seq (.r [.q 7 3 3, .m 4 7]) (.cond (.t 4) .skip (.r [.q 8 3 4, .m 4 8]))))))) (.cond (.t 4) (.seq (.r [.v 2 (.ci 0)]) .ret) (.seq (.r [.q 10 3 7, .m 9 10]) (.cond (.t 9) (.seq (.r [.v 2 (.ci 1)]) .ret) (.seq (.seq (.r [.q 12 3 5, .m 11 12]) (.cond (.t 11) .skip (.r [.q 13 3 6, .m 11 13]))) (.cond (.t 11) (.seq (.r [.v 2 (.ci 2)]) .ret) .skip)))))))) (.seq (.r [.o (.mv 2 (.c (.sc (.int .i64 (-1)))))]) .ret)))
def K_l06Kids (P : Program) (fno : Nat) : Prop := ∀ (k : Int), AF P fno [eI k] (.own (eI (kidsP k)))
theorem a_l06Kids {P : Program} (hm : P.follows .mixedOrders = true) {g : Nat} (hr : resF P g = some (14, k_l06Kids, [.t 2])) : K_l06Kids P g := by
 intro k
 refine af_of_res hr hm rfl fun hb => ?_
 by_cases c1 : k = 1
 ·subst c1
  simp +contextual -implicitDefEqProofs only [k_l06Kids, bE, go_sem, eI, ↓reduceIte, Nat.reduceEqDiff]
  try exact D.Le.sc_eq (congrArg (Value.int .i64) (by decide))
 have b1 : (k == 1) = false := by simpa using c1
 by_cases c2 : k = 2
 ·subst c2
  simp +contextual -implicitDefEqProofs only [k_l06Kids, Int.reduceBEq, bE, go_sem, eI, ↓reduceIte, Nat.reduceEqDiff]
  try exact D.Le.sc_eq (congrArg (Value.int .i64) (by decide))
 have b2 : (k == 2) = false := by simpa using c2
 by_cases c3 : k = 3
 ·subst c3
  simp +contextual -implicitDefEqProofs only [k_l06Kids, Int.reduceBEq, bE, go_sem, eI, ↓reduceIte, Nat.reduceEqDiff]
  try exact D.Le.sc_eq (congrArg (Value.int .i64) (by decide))
 have b3 : (k == 3) = false := by simpa using c3
 by_cases c4 : k = 4
 ·subst c4
  simp +contextual -implicitDefEqProofs only [k_l06Kids, Int.reduceBEq, bE, go_sem, eI, ↓reduceIte, Nat.reduceEqDiff]
  try exact D.Le.sc_eq (congrArg (Value.int .i64) (by decide))
 have b4 : (k == 4) = false := by simpa using c4
 by_cases c7 : k = 7
 ·subst c7
  simp +contextual -implicitDefEqProofs only [k_l06Kids, Int.reduceBEq, bE, go_sem, eI, ↓reduceIte, Nat.reduceEqDiff]
  try exact D.Le.sc_eq (congrArg (Value.int .i64) (by decide))
 have b7 : (k == 7) = false := by simpa using c7
 by_cases c5 : k = 5
 ·subst c5
  simp +contextual -implicitDefEqProofs only [k_l06Kids, Int.reduceBEq, bE, go_sem, eI, ↓reduceIte, Nat.reduceEqDiff]
  try exact D.Le.sc_eq (congrArg (Value.int .i64) (by decide))
 have b5 : (k == 5) = false := by simpa using c5
 by_cases c6 : k = 6
 ·subst c6
  simp +contextual -implicitDefEqProofs only [k_l06Kids, Int.reduceBEq, bE, go_sem, eI, ↓reduceIte, Nat.reduceEqDiff]
  try exact D.Le.sc_eq (congrArg (Value.int .i64) (by decide))
 have b6 : (k == 6) = false := by simpa using c6
 simp +contextual -implicitDefEqProofs only [k_l06Kids, b1, b2, b3, b4, b7, b5, b6, go_sem, eI, ↓reduceIte, Nat.reduceEqDiff]
 exact D.Le.sc_eq (by simp [kidsP, c1, c2, c3, c4, c7, c5, c6])

def k_l06Asks : RC := (.seq (.r [.v 2 .cf]) (.seq (.r [.m 3 0, .q 4 3 4, .m 5 4, .u 5 (.mv 6 (.t 0)), .u 5 (.bin 7 .eql (.t 6) (.ci 6)), .o (.pick 8 (.t 5) .ct (.t 7)), .m 9 8, .u 9 (.mv 10 (.t 0)), .u 9 (.bin 11 .eql (.t 10) (.ci 7)), .o (.pick 12 (.t 9) .ct (.t 11)), .m 2 12]) .ret))
def K_l06Asks (P : Program) (fno : Nat) : Prop := ∀ (k : Int), AF P fno [eI k] (.own (eB (asksP k)))
theorem a_l06Asks {P : Program} (hm : P.follows .mixedOrders = true) {g : Nat} (hr : resF P g = some (13, k_l06Asks, [.t 2])) : K_l06Asks P g := by
 intro k
 refine af_of_res hr hm rfl fun hb => ?_
 cases b4 : (k == 4)
 ·cases b6 : (k == 6)
  ·simp +contextual -implicitDefEqProofs only [k_l06Asks, asksP, b4, b6, Bool.false_or, go_sem, eI, eB, ↓reduceIte, Nat.reduceEqDiff]
  ·simp +contextual -implicitDefEqProofs only [k_l06Asks, asksP, b4, b6, Bool.true_or, Bool.or_true, go_sem, eI, eB, ↓reduceIte, Nat.reduceEqDiff]
 ·simp +contextual -implicitDefEqProofs only [k_l06Asks, asksP, b4, Bool.true_or, go_sem, eI, eB, ↓reduceIte, Nat.reduceEqDiff]

def k_progFits (g f1 f2 f3 f4 : Nat) : RC := (.seq (.r [.b 4 2 0, .b 5 6 1, .v 8 (.ci 0), .v 9 .cf]) (.seq (.r [.f 17 0 5, .l 18 1 17, .c 19 f1 [.t 18], .m 16 19, .o (.ext 20 (.t 16) 0), .o (.ext 21 (.t 16) 1), .m 10 20, .m 11 21]) (.seq (.seq (.r [.m 22 2, .q 23 22 0, .m 24 23, .u 24 (.mv 25 (.t 3)), .u 24 (.bin 26 .eql (.t 25) (.ci 0)), .o (.pick 27 (.t 24) .ct (.t 26)), .m 28 27, .u 28 (.mv 29 (.t 10)), .u 28 (.fa 30 5 (.t 5)), .u 28 (.ld 31 false 1 (.t 30)), .u 28 (.len 32 (.t 31)), .u 28 (.bin 33 .neq (.t 29) (.t 32)), .o (.pick 34 (.t 28) .ct (.t 33))]) (.cond (.t 34) (.seq (.r [.v 8 (.ci 0), .v 9 .cf]) .ret) .skip)) (.seq (.seq (.r [.m 35 11, .m 36 35, .w 36 (.ld 37 true 2 (.t 4)), .w 36 (.fa 38 2 (.t 5)), .w 36 (.ld 39 true 3 (.t 38)), .w 36 (.call (some 40) f2 [.t 37, .t 39]), .w 36 (.un 41 .not (.t 40)), .k 42 36 41, .m 43 42, .u 43 (.mv 44 (.t 11)), .u 43 (.un 45 .not (.t 44)), .u 43 (.mv 46 (.t 45)), .w 46 (.fa 47 2 (.t 5)), .w 46 (.ld 48 true 3 (.t 47)), .w 46 (.call (some 49) f3 [.t 48]), .w 46 (.un 50 .not (.t 49)), .u 43 (.pick 51 (.t 46) (.t 50) .cf), .o (.pick 52 (.t 43) .ct (.t 51))]) (.cond (.t 52) (.seq (.r [.v 8 (.ci 0), .v 9 .cf]) .ret) .skip)) (.seq (.seq (.r [.f 53 0 5, .l 54 1 53, .q 55 54 3, .m 56 55, .w 56 (.fa 57 1 (.t 5)), .w 56 (.ld 58 false 1 (.t 57)), .w 56 (.fa 59 1 (.t 4)), .w 56 (.ld 60 false 1 (.t 59)), .w 56 (.bin 61 .sub (.t 60) (.ci 1)), .w 56 (.call (some 62) f4 [.t 58, .ci 0, .t 61]), .w 56 (.un 63 .not (.t 62)), .k 64 56 63, .m 65 64, .u 65 (.fa 66 0 (.t 5)), .u 65 (.ld 67 false 1 (.t 66)), .u 65 (.bin 68 .neq (.t 67) (.ci 3)), .u 65 (.mv 69 (.t 68)), .w 69 (.fa 70 1 (.t 5)), .w 69 (.ld 71 false 1 (.t 70)), .w 69 (.bin 72 .neq (.t 71) (.ci 0)), .u 65 (.pick 73 (.t 69) (.t 72) .cf), .o (.pick 74 (.t 65) .ct (.t 73))]) (.cond (.t 74) (.seq (.r [.v 8 (.ci 0), .v 9 .cf]) .ret) .skip)) (.seq (.r [.m 75 2, .o (.bin 76 .sub (.t 75) (.ci 1)), .m 2 76]) (.seq (.seq (.r [.f 77 5 5, .l 78 1 77, .o (.len 79 (.t 78)), .v 80 (.ci 0)]) (.blk 0 (.loop (.seq (.r [.o (.bin 81 .lss (.t 80) (.t 79))]) (.seq (.cond (.t 81) .skip (.exit 0)) (.seq (.blk 1 (.seq (.r [.o (.ia 82 6 (.t 78) (.t 80)), .L 83 6 82, .o (.zer 13 6 .zp), .s 6 13 83]) (.seq (.r [.L 85 2 4, .L 86 6 13, .m 87 2, .m 88 3, .o (.bin 89 .sub (.t 88) (.ci 1)), .c 90 g [.t 85, .t 86, .t 87, .t 89], .m 84 90, .o (.ext 91 (.t 84) 0), .o (.ext 92 (.t 84) 1), .m 14 91, .m 15 92]) (.seq (.seq (.r [.m 93 15, .o (.un 94 .not (.t 93))]) (.cond (.t 94) (.seq (.r [.v 8 (.ci 0), .v 9 .cf]) .ret) .skip)) (.r [.m 95 14, .m 2 95]))))) (.r [.o (.bin 96 .add (.t 80) (.ci 1)), .m 80 96]))))))) (.seq (.r [.m 97 2, .m 8 97, .v 9 .ct]) .ret))))))))
def K_progFits (P : Program) (fno : Nat) : Prop := ∀ (g : Int × Int) (e : Pg) (N d : Int) (h1 : 0 ≤ N) (h2 : N ≤ 1048576) (h3 : 0 ≤ d) (h4 : d ≤ 1048576), AF P fno [eG g, eP e, eI N, eI d] (.tup ([.own (eI ((shP g e N d).getD 0)), .own (eB (shP g e N d).isSome)]))
theorem a_progFits {P : Program} (hm : P.follows .mixedOrders = true) {g f1 f2 f3 f4 : Nat} (hr : resF P g = some (98, k_progFits g f1 f2 f3 f4, [.t 8, .t 9])) (hc1 : K_progForm P f1) (hc2 : K_imCondOk P f2) (hc3 : K_isNone P f3) (hc4 : K_within P f4) : K_progFits P g := by
 intro g e N d h1 h2 h3 h4
 rename_i gg
 revert N d
 refine Pg.ind (p := fun e => ∀ N d : Int, 0 ≤ N → N ≤ 1048576 → 0 ≤ d → d ≤ 1048576 → AF P gg [eG g, eP e, eI N, eI d] (.tup [.own (eI ((shP g e N d).getD 0)), .own (eB (shP g e N d).isSome)])) (fun k n c nn ks ih N d h1 h2 h3 h4 => ?_) e
 have hv := shP_mk g k n c nn ks N d
 rw [eP_mk]
 refine af_of_res hr hm rfl fun hb => ?_
 have hl : ks.length ≤ 9223372036854775807 := by
  have := hb.2.1
  simp only [D.bd, D.bdL, lM, maxEl] at this
  exact this.2.2.2.2.2.1.1
 simp +contextual -implicitDefEqProofs only [k_progFits, eG, bne, bN, bU, go_sem, eI, eB, ↓reduceIte, Nat.reduceEqDiff, Nat.reduceAdd, Nat.reduceLeDiff, Nat.reduceBEq, Nat.reduceLT]
 refine callQ_self ?_ (hc1 k) ?_
 ·exact rfl
 cases b1 : (N == 0)
 case true =>
  have hn := hv.trans (if_pos (.inl (by simpa using b1)))
  simp +contextual -implicitDefEqProofs only [b1, go_sem, eI, eB, ↓reduceIte, Nat.reduceEqDiff, Nat.reduceAdd, Nat.reduceLT]
  exact ⟨D.Le.sc_eq (by rw [hn]; rfl), D.Le.sc_eq (by rw [hn]; rfl)⟩
 have b1' : ¬ N = 0 := by simpa using b1
 cases b2 : (d == 0)
 case true =>
  have hn := hv.trans (if_pos (.inr (.inl (by simpa using b2))))
  simp +contextual -implicitDefEqProofs only [b1, b2, go_sem, eI, eB, ↓reduceIte, Nat.reduceEqDiff, Nat.reduceAdd, Nat.reduceLT]
  exact ⟨D.Le.sc_eq (by rw [hn]; rfl), D.Le.sc_eq (by rw [hn]; rfl)⟩
 have b2' : ¬ d = 0 := by simpa using b2
 cases hk : (kidsP k == (ks.length : Int))
 ·simp +contextual -implicitDefEqProofs only [b1, b2, hk, lM, bne, bN, go_sem, eI, eB, ↓reduceIte, Nat.reduceEqDiff, Nat.reduceAdd, Nat.reduceLeDiff, Nat.reduceLT]
  exact ⟨D.Le.sc_eq (by rw [(hv.trans (if_pos (.inr (.inr (by simp [formP, hk])))))]; rfl), D.Le.sc_eq (by rw [(hv.trans (if_pos (.inr (.inr (by simp [formP, hk])))))]; rfl)⟩
 cases ha : asksP k
 ·simp +contextual -implicitDefEqProofs only [b1, b2, hk, lM, bne, bT, bN, go_sem, eI, eB, ↓reduceIte, Nat.reduceEqDiff, Nat.reduceAdd, Nat.reduceLeDiff, Nat.reduceLT]
  refine callQ_self (ds := [eE c]) ?_ (hc3 c) ?_
  ·rw [eE_eta]; exact rfl
  cases hc : noneE c
  ·simp +contextual -implicitDefEqProofs only [bN, go_sem, eB, ↓reduceIte, Nat.reduceEqDiff]
   exact ⟨D.Le.sc_eq (by rw [(hv.trans (if_pos (.inr (.inr (by simp [formP, hk, ha, hc, cP])))))]; rfl), D.Le.sc_eq (by rw [(hv.trans (if_pos (.inr (.inr (by simp [formP, hk, ha, hc, cP])))))]; rfl)⟩
  cases b3 : (k == 3)
  ·cases hn : (n == 0)
   ·simp +contextual -implicitDefEqProofs only [b3, hn, bne, bT, bN, go_sem, eB, ↓reduceIte, Nat.reduceEqDiff, Nat.reduceAdd, Nat.reduceLeDiff, Nat.reduceLT]
    exact ⟨D.Le.sc_eq (by rw [(hv.trans (if_pos (.inr (.inr (by simp [formP, hk, ha, hc, cP, numP, b3, hn])))))]; rfl), D.Le.sc_eq (by rw [(hv.trans (if_pos (.inr (.inr (by simp [formP, hk, ha, hc, cP, numP, b3, hn])))))]; rfl)⟩
   ·simp +contextual -implicitDefEqProofs only [lM, b3, hn, bne, bT, bN, go_sem, eB, ↓reduceIte, Nat.reduceEqDiff, Nat.reduceAdd, Nat.reduceLeDiff, Nat.reduceLT]
    have hF : formP g k n c ks = true := by simp [formP, hk, ha, hc, cP, numP, b3, hn]
    have hne : ¬ (N = 0 ∨ d = 0 ∨ formP g k n c ks = false) := by rw [hF]; simp; omega
    rw [hv, if_neg hne]
    rw [wrap_i64 (x := N - 1) (by omega) (by omega)]
    refine vc_on (α := Nat × Int) [2, 8, 9, 13, 14, 15, 80, 81, 82, 83, 84, 85, 86, 87, 88, 89, 90, 91, 92, 93, 94, 95, 96] (fun x => [(80, .im none (.sc (.int .i64 x.1))), (2, .im none (.sc (.int .i64 x.2)))]) (fun x => x.1 ≤ ks.length ∧ 0 ≤ x.2 ∧ x.2 ≤ N ∧ shPs g (ks.drop x.1) x.2 (d - 1) = shPs g ks (N - 1) (d - 1)) (fun x => ks.length - x.1) (0, N - 1) (by simp only [subEnv, go_sem, ↓reduceIte, Nat.reduceEqDiff]; simp) ⟨Nat.zero_le _, by simp only; omega, by simp only; omega, rfl⟩ ?_
    rintro ⟨i, m⟩ j
    simp only at j
    obtain ⟨j1, j2, j3, j4⟩ := j
    by_cases hi : i < ks.length
    ·have e1 := at_map (f := eP) hi
     rw [shPs_step hi] at j4
     cases n1 : (eP ks[i]).noPtr
     all_goals
      simp +contextual -implicitDefEqProofs only [e1, hi, encP.sub, eP_size, eP_isAg, iL, lM, iN, Nat.zero_lt_one, n1, bne, bN, bU, Bool.or_false, go_sem, ↓reduceIte, Nat.reduceEqDiff, Nat.reduceAdd, Nat.reduceLeDiff, Nat.reduceBEq, Nat.reduceLT]
      rw [wrap_i64 (x := d - 1) (by omega) (by omega)]
      refine callQ_self ?_ (ih ks[i] (List.getElem_mem _) m (d - 1) j2 (by omega) (by omega) (by omega)) ?_
      ·exact rfl
      cases hx : shP g ks[i] m (d - 1) with
      | none =>
       rw [hx] at j4
       simp +contextual -implicitDefEqProofs only [Option.getD_none, Option.isSome_none, bN, go_sem, eI, eB, ↓reduceIte, Nat.reduceEqDiff, Nat.reduceAdd, Nat.reduceLT]
       exact ⟨D.Le.sc_eq (by rw [← j4]; rfl), D.Le.sc_eq (by rw [← j4]; rfl)⟩
      | some q =>
       rw [hx] at j4
       have hq := shP_some j2 (by omega) hx
       simp +contextual -implicitDefEqProofs only [Option.getD_some, Option.isSome_some, bT, go_sem, eI, eB, ↓reduceIte, Nat.reduceEqDiff, Nat.reduceAdd, Nat.reduceLT]
       rw [wrap_i64 (by omega) (by omega)]
       exact ⟨(i + 1, q), ⟨by simp only; omega, hq.1, by simp only; omega, j4⟩, by simp only; omega, Ent.delEnv 13 (by simp only [go_sem, ↓reduceIte, Nat.reduceEqDiff, killU, U.kill]) (by simp only [subEnv, go_sem, ↓reduceIte, Nat.reduceEqDiff, Nat.reduceBEq, killE, AV.refs]; simp)⟩
    ·simp +contextual -implicitDefEqProofs only [hi, iL, go_sem, ↓reduceIte, Nat.reduceEqDiff]
     rw [List.drop_eq_nil_of_le (by omega), shPs] at j4
     exact ⟨D.Le.sc_eq (by rw [← j4]; rfl), D.Le.sc_eq (by rw [← j4]; rfl)⟩
  ·simp +contextual -implicitDefEqProofs only [b3, bT, go_sem, eB, ↓reduceIte, Nat.reduceEqDiff, Nat.reduceAdd, Nat.reduceLeDiff, Nat.reduceLT]
   refine callQ_self ?_ (hc4 n 0 (IntKind.i64.wrap (g.2 - 1))) ?_
   ·exact rfl
   cases hw : isIn n 0 (IntKind.i64.wrap (g.2 - 1))
   ·simp +contextual -implicitDefEqProofs only [bN, go_sem, eB, ↓reduceIte, Nat.reduceEqDiff]
    exact ⟨D.Le.sc_eq (by rw [(hv.trans (if_pos (.inr (.inr (by simp [formP, hk, ha, hc, cP, numP, b3, hw])))))]; rfl), D.Le.sc_eq (by rw [(hv.trans (if_pos (.inr (.inr (by simp [formP, hk, ha, hc, cP, numP, b3, hw])))))]; rfl)⟩
   ·simp +contextual -implicitDefEqProofs only [lM, b3, bne, bT, go_sem, eB, ↓reduceIte, Nat.reduceEqDiff, Nat.reduceAdd, Nat.reduceLeDiff, Nat.reduceLT]
    have hF : formP g k n c ks = true := by simp [formP, hk, ha, hc, cP, numP, b3, hw]
    have hne : ¬ (N = 0 ∨ d = 0 ∨ formP g k n c ks = false) := by rw [hF]; simp; omega
    rw [hv, if_neg hne]
    rw [wrap_i64 (x := N - 1) (by omega) (by omega)]
    refine vc_on (α := Nat × Int) [2, 8, 9, 13, 14, 15, 80, 81, 82, 83, 84, 85, 86, 87, 88, 89, 90, 91, 92, 93, 94, 95, 96] (fun x => [(80, .im none (.sc (.int .i64 x.1))), (2, .im none (.sc (.int .i64 x.2)))]) (fun x => x.1 ≤ ks.length ∧ 0 ≤ x.2 ∧ x.2 ≤ N ∧ shPs g (ks.drop x.1) x.2 (d - 1) = shPs g ks (N - 1) (d - 1)) (fun x => ks.length - x.1) (0, N - 1) (by simp only [subEnv, go_sem, ↓reduceIte, Nat.reduceEqDiff]; simp) ⟨Nat.zero_le _, by simp only; omega, by simp only; omega, rfl⟩ ?_
    rintro ⟨i, m⟩ j
    simp only at j
    obtain ⟨j1, j2, j3, j4⟩ := j
    by_cases hi : i < ks.length
    ·have e1 := at_map (f := eP) hi
     rw [shPs_step hi] at j4
     cases n1 : (eP ks[i]).noPtr
     all_goals
      simp +contextual -implicitDefEqProofs only [e1, hi, encP.sub, eP_size, eP_isAg, iL, lM, iN, Nat.zero_lt_one, n1, bne, bN, bU, Bool.or_false, go_sem, ↓reduceIte, Nat.reduceEqDiff, Nat.reduceAdd, Nat.reduceLeDiff, Nat.reduceBEq, Nat.reduceLT]
      rw [wrap_i64 (x := d - 1) (by omega) (by omega)]
      refine callQ_self ?_ (ih ks[i] (List.getElem_mem _) m (d - 1) j2 (by omega) (by omega) (by omega)) ?_
      ·exact rfl
      cases hx : shP g ks[i] m (d - 1) with
      | none =>
       rw [hx] at j4
       simp +contextual -implicitDefEqProofs only [Option.getD_none, Option.isSome_none, bN, go_sem, eI, eB, ↓reduceIte, Nat.reduceEqDiff, Nat.reduceAdd, Nat.reduceLT]
       exact ⟨D.Le.sc_eq (by rw [← j4]; rfl), D.Le.sc_eq (by rw [← j4]; rfl)⟩
      | some q =>
       rw [hx] at j4
       have hq := shP_some j2 (by omega) hx
       simp +contextual -implicitDefEqProofs only [Option.getD_some, Option.isSome_some, bT, go_sem, eI, eB, ↓reduceIte, Nat.reduceEqDiff, Nat.reduceAdd, Nat.reduceLT]
       rw [wrap_i64 (by omega) (by omega)]
       exact ⟨(i + 1, q), ⟨by simp only; omega, hq.1, by simp only; omega, j4⟩, by simp only; omega, Ent.delEnv 13 (by simp only [go_sem, ↓reduceIte, Nat.reduceEqDiff, killU, U.kill]) (by simp only [subEnv, go_sem, ↓reduceIte, Nat.reduceEqDiff, Nat.reduceBEq, killE, AV.refs]; simp)⟩
    ·simp +contextual -implicitDefEqProofs only [hi, iL, go_sem, ↓reduceIte, Nat.reduceEqDiff]
     rw [List.drop_eq_nil_of_le (by omega), shPs] at j4
     exact ⟨D.Le.sc_eq (by rw [← j4]; rfl), D.Le.sc_eq (by rw [← j4]; rfl)⟩
 ·simp +contextual -implicitDefEqProofs only [b1, b2, hk, lM, bne, bT, go_sem, eI, eB, ↓reduceIte, Nat.reduceEqDiff, Nat.reduceAdd, Nat.reduceLeDiff, Nat.reduceLT]
  refine callQ_self (ds := [eG g, eE c]) ?_ (hc2 g c) ?_
  ·rw [eE_eta]; exact rfl
  cases hc : condOk g c
  ·simp +contextual -implicitDefEqProofs only [bN, go_sem, eB, ↓reduceIte, Nat.reduceEqDiff]
   exact ⟨D.Le.sc_eq (by rw [(hv.trans (if_pos (.inr (.inr (by simp [formP, hk, ha, hc, cP])))))]; rfl), D.Le.sc_eq (by rw [(hv.trans (if_pos (.inr (.inr (by simp [formP, hk, ha, hc, cP])))))]; rfl)⟩
  cases b3 : (k == 3)
  ·cases hn : (n == 0)
   ·simp +contextual -implicitDefEqProofs only [b3, hn, bne, bT, bN, go_sem, eB, ↓reduceIte, Nat.reduceEqDiff, Nat.reduceAdd, Nat.reduceLeDiff, Nat.reduceLT]
    exact ⟨D.Le.sc_eq (by rw [(hv.trans (if_pos (.inr (.inr (by simp [formP, hk, ha, hc, cP, numP, b3, hn])))))]; rfl), D.Le.sc_eq (by rw [(hv.trans (if_pos (.inr (.inr (by simp [formP, hk, ha, hc, cP, numP, b3, hn])))))]; rfl)⟩
   ·simp +contextual -implicitDefEqProofs only [lM, b3, hn, bne, bT, bN, go_sem, eB, ↓reduceIte, Nat.reduceEqDiff, Nat.reduceAdd, Nat.reduceLeDiff, Nat.reduceLT]
    have hF : formP g k n c ks = true := by simp [formP, hk, ha, hc, cP, numP, b3, hn]
    have hne : ¬ (N = 0 ∨ d = 0 ∨ formP g k n c ks = false) := by rw [hF]; simp; omega
    rw [hv, if_neg hne]
    rw [wrap_i64 (x := N - 1) (by omega) (by omega)]
    refine vc_on (α := Nat × Int) [2, 8, 9, 13, 14, 15, 80, 81, 82, 83, 84, 85, 86, 87, 88, 89, 90, 91, 92, 93, 94, 95, 96] (fun x => [(80, .im none (.sc (.int .i64 x.1))), (2, .im none (.sc (.int .i64 x.2)))]) (fun x => x.1 ≤ ks.length ∧ 0 ≤ x.2 ∧ x.2 ≤ N ∧ shPs g (ks.drop x.1) x.2 (d - 1) = shPs g ks (N - 1) (d - 1)) (fun x => ks.length - x.1) (0, N - 1) (by simp only [subEnv, go_sem, ↓reduceIte, Nat.reduceEqDiff]; simp) ⟨Nat.zero_le _, by simp only; omega, by simp only; omega, rfl⟩ ?_
    rintro ⟨i, m⟩ j
    simp only at j
    obtain ⟨j1, j2, j3, j4⟩ := j
    by_cases hi : i < ks.length
    ·have e1 := at_map (f := eP) hi
     rw [shPs_step hi] at j4
     cases n1 : (eP ks[i]).noPtr
     all_goals
      simp +contextual -implicitDefEqProofs only [e1, hi, encP.sub, eP_size, eP_isAg, iL, lM, iN, Nat.zero_lt_one, n1, bne, bN, bU, Bool.or_false, go_sem, ↓reduceIte, Nat.reduceEqDiff, Nat.reduceAdd, Nat.reduceLeDiff, Nat.reduceBEq, Nat.reduceLT]
      rw [wrap_i64 (x := d - 1) (by omega) (by omega)]
      refine callQ_self ?_ (ih ks[i] (List.getElem_mem _) m (d - 1) j2 (by omega) (by omega) (by omega)) ?_
      ·exact rfl
      cases hx : shP g ks[i] m (d - 1) with
      | none =>
       rw [hx] at j4
       simp +contextual -implicitDefEqProofs only [Option.getD_none, Option.isSome_none, bN, go_sem, eI, eB, ↓reduceIte, Nat.reduceEqDiff, Nat.reduceAdd, Nat.reduceLT]
       exact ⟨D.Le.sc_eq (by rw [← j4]; rfl), D.Le.sc_eq (by rw [← j4]; rfl)⟩
      | some q =>
       rw [hx] at j4
       have hq := shP_some j2 (by omega) hx
       simp +contextual -implicitDefEqProofs only [Option.getD_some, Option.isSome_some, bT, go_sem, eI, eB, ↓reduceIte, Nat.reduceEqDiff, Nat.reduceAdd, Nat.reduceLT]
       rw [wrap_i64 (by omega) (by omega)]
       exact ⟨(i + 1, q), ⟨by simp only; omega, hq.1, by simp only; omega, j4⟩, by simp only; omega, Ent.delEnv 13 (by simp only [go_sem, ↓reduceIte, Nat.reduceEqDiff, killU, U.kill]) (by simp only [subEnv, go_sem, ↓reduceIte, Nat.reduceEqDiff, Nat.reduceBEq, killE, AV.refs]; simp)⟩
    ·simp +contextual -implicitDefEqProofs only [hi, iL, go_sem, ↓reduceIte, Nat.reduceEqDiff]
     rw [List.drop_eq_nil_of_le (by omega), shPs] at j4
     exact ⟨D.Le.sc_eq (by rw [← j4]; rfl), D.Le.sc_eq (by rw [← j4]; rfl)⟩
  ·simp +contextual -implicitDefEqProofs only [b3, bT, go_sem, eB, ↓reduceIte, Nat.reduceEqDiff, Nat.reduceAdd, Nat.reduceLeDiff, Nat.reduceLT]
   refine callQ_self ?_ (hc4 n 0 (IntKind.i64.wrap (g.2 - 1))) ?_
   ·exact rfl
   cases hw : isIn n 0 (IntKind.i64.wrap (g.2 - 1))
   ·simp +contextual -implicitDefEqProofs only [bN, go_sem, eB, ↓reduceIte, Nat.reduceEqDiff]
    exact ⟨D.Le.sc_eq (by rw [(hv.trans (if_pos (.inr (.inr (by simp [formP, hk, ha, hc, cP, numP, b3, hw])))))]; rfl), D.Le.sc_eq (by rw [(hv.trans (if_pos (.inr (.inr (by simp [formP, hk, ha, hc, cP, numP, b3, hw])))))]; rfl)⟩
   ·simp +contextual -implicitDefEqProofs only [lM, b3, bne, bT, go_sem, eB, ↓reduceIte, Nat.reduceEqDiff, Nat.reduceAdd, Nat.reduceLeDiff, Nat.reduceLT]
    have hF : formP g k n c ks = true := by simp [formP, hk, ha, hc, cP, numP, b3, hw]
    have hne : ¬ (N = 0 ∨ d = 0 ∨ formP g k n c ks = false) := by rw [hF]; simp; omega
    rw [hv, if_neg hne]
    rw [wrap_i64 (x := N - 1) (by omega) (by omega)]
    refine vc_on (α := Nat × Int) [2, 8, 9, 13, 14, 15, 80, 81, 82, 83, 84, 85, 86, 87, 88, 89, 90, 91, 92, 93, 94, 95, 96] (fun x => [(80, .im none (.sc (.int .i64 x.1))), (2, .im none (.sc (.int .i64 x.2)))]) (fun x => x.1 ≤ ks.length ∧ 0 ≤ x.2 ∧ x.2 ≤ N ∧ shPs g (ks.drop x.1) x.2 (d - 1) = shPs g ks (N - 1) (d - 1)) (fun x => ks.length - x.1) (0, N - 1) (by simp only [subEnv, go_sem, ↓reduceIte, Nat.reduceEqDiff]; simp) ⟨Nat.zero_le _, by simp only; omega, by simp only; omega, rfl⟩ ?_
    rintro ⟨i, m⟩ j
    simp only at j
    obtain ⟨j1, j2, j3, j4⟩ := j
    by_cases hi : i < ks.length
    ·have e1 := at_map (f := eP) hi
     rw [shPs_step hi] at j4
     cases n1 : (eP ks[i]).noPtr
     all_goals
      simp +contextual -implicitDefEqProofs only [e1, hi, encP.sub, eP_size, eP_isAg, iL, lM, iN, Nat.zero_lt_one, n1, bne, bN, bU, Bool.or_false, go_sem, ↓reduceIte, Nat.reduceEqDiff, Nat.reduceAdd, Nat.reduceLeDiff, Nat.reduceBEq, Nat.reduceLT]
      rw [wrap_i64 (x := d - 1) (by omega) (by omega)]
      refine callQ_self ?_ (ih ks[i] (List.getElem_mem _) m (d - 1) j2 (by omega) (by omega) (by omega)) ?_
      ·exact rfl
      cases hx : shP g ks[i] m (d - 1) with
      | none =>
       rw [hx] at j4
       simp +contextual -implicitDefEqProofs only [Option.getD_none, Option.isSome_none, bN, go_sem, eI, eB, ↓reduceIte, Nat.reduceEqDiff, Nat.reduceAdd, Nat.reduceLT]
       exact ⟨D.Le.sc_eq (by rw [← j4]; rfl), D.Le.sc_eq (by rw [← j4]; rfl)⟩
      | some q =>
       rw [hx] at j4
       have hq := shP_some j2 (by omega) hx
       simp +contextual -implicitDefEqProofs only [Option.getD_some, Option.isSome_some, bT, go_sem, eI, eB, ↓reduceIte, Nat.reduceEqDiff, Nat.reduceAdd, Nat.reduceLT]
       rw [wrap_i64 (by omega) (by omega)]
       exact ⟨(i + 1, q), ⟨by simp only; omega, hq.1, by simp only; omega, j4⟩, by simp only; omega, Ent.delEnv 13 (by simp only [go_sem, ↓reduceIte, Nat.reduceEqDiff, killU, U.kill]) (by simp only [subEnv, go_sem, ↓reduceIte, Nat.reduceEqDiff, Nat.reduceBEq, killE, AV.refs]; simp)⟩
    ·simp +contextual -implicitDefEqProofs only [hi, iL, go_sem, ↓reduceIte, Nat.reduceEqDiff]
     rw [List.drop_eq_nil_of_le (by omega), shPs] at j4
     exact ⟨D.Le.sc_eq (by rw [← j4]; rfl), D.Le.sc_eq (by rw [← j4]; rfl)⟩
theorem eP_ex (e : Pg) : ∃ k n c nn ks, e = .mk k n c nn ks := by cases e; exact ⟨_, _, _, _, _, rfl⟩

def k_isProg (f1 : Nat) : RC := (.seq (.r [.b 2 2 0, .b 3 6 1, .v 4 .cf]) (.seq (.r [.L 8 2 2, .L 9 6 3, .c 10 f1 [.t 8, .t 9, .ci 60, .ci 20], .m 7 10, .o (.ext 11 (.t 7) 0), .o (.ext 12 (.t 7) 1), .m 5 11, .m 6 12]) (.seq (.r [.m 13 6, .m 4 13]) .ret)))
def K_isProg (P : Program) (fno : Nat) : Prop := ∀ (g : Int × Int) (e : Pg), AF P fno [eG g, eP e] (.own (eB (okP g e)))
theorem a_isProg {P : Program} (hm : P.follows .mixedOrders = true) {g f1 : Nat} (hr : resF P g = some (14, k_isProg f1, [.t 4])) (hc1 : K_progFits P f1) : K_isProg P g := by
 intro g e
 rw [← shP_ok]
 have hp : ∀ k n c nn ks, eP (.mk k n c nn ks) = _ := eP_mk
 obtain ⟨k, n, c, nn, ks, rfl⟩ := eP_ex e
 rw [eP_mk]
 refine af_of_res hr hm rfl fun hb => ?_
 simp +contextual -implicitDefEqProofs only [k_isProg, eG, bne, bN, bU, go_sem, eI, eB, ↓reduceIte, Nat.reduceEqDiff, Nat.reduceAdd, Nat.reduceLeDiff, Nat.reduceBEq, Nat.reduceLT]
 refine callQ_self (ds := [eG g, eP (.mk k n c nn ks), eI 60, eI 20]) ?_ (hc1 g (.mk k n c nn ks) 60 20 (by omega) (by omega) (by omega) (by omega)) ?_
 ·rw [eP_mk]; exact rfl
 simp +contextual -implicitDefEqProofs only [go_sem, eI, eB, ↓reduceIte, Nat.reduceEqDiff, Nat.reduceAdd, Nat.reduceLT]

def k_imValidProg (f1 f2 : Nat) : RC := (.seq (.r [.b 2 2 0, .b 3 6 1, .v 4 .cf]) (.seq (.r [.L 5 2 2, .c 6 f1 [.t 5], .m 7 6, .w 7 (.ld 8 true 2 (.t 2)), .w 7 (.ld 9 true 6 (.t 3)), .w 7 (.call (some 10) f2 [.t 8, .t 9]), .k 11 7 10, .m 4 11]) .ret))
def K_imValidProg (P : Program) (fno : Nat) : Prop := ∀ (g : Int × Int) (e : Pg), AF P fno [eG g, eP e] (.own (eB (okG g && okP g e)))
theorem a_imValidProg {P : Program} (hm : P.follows .mixedOrders = true) {g f1 f2 : Nat} (hr : resF P g = some (12, k_imValidProg f1 f2, [.t 4])) (hc1 : K_validSig P f1) (hc2 : K_isProg P f2) : K_imValidProg P g := by
 intro g e
 obtain ⟨k, n, c, nn, ks, rfl⟩ := eP_ex e
 rw [eP_mk]
 refine af_of_res hr hm rfl fun hb => ?_
 simp +contextual -implicitDefEqProofs only [k_imValidProg, eG, bne, bN, bU, go_sem, eI, eB, ↓reduceIte, Nat.reduceEqDiff, Nat.reduceAdd, Nat.reduceLeDiff, Nat.reduceBEq, Nat.reduceLT]
 refine callQ_self ?_ (hc1 g) ?_
 ·exact rfl
 cases hg : okG g
 ·simp +contextual -implicitDefEqProofs only [bG, go_sem, eB, ↓reduceIte, Nat.reduceEqDiff]
 simp +contextual -implicitDefEqProofs only [bI, go_sem, eB, ↓reduceIte, Nat.reduceEqDiff, Nat.reduceLeDiff]
 refine callQ_self (ds := [eG g, eP (.mk k n c nn ks)]) ?_ (hc2 g (.mk k n c nn ks)) ?_
 ·rw [eP_mk]; exact rfl
 simp +contextual -implicitDefEqProofs only [go_sem, eB, ↓reduceIte, Nat.reduceEqDiff]

def k_l06Left (g : Nat) : RC := (.seq (.r [.v 4 (.ci 0)]) (.seq (.r [.m 6 1, .o (.bin 7 .sub (.t 6) (.ci 1)), .m 1 7]) (.seq (.seq (.r [.v 5 (.ci 0)]) (.blk 0 (.loop (.seq (.seq (.r [.m 8 5, .m 9 0, .n 10 9, .f 11 5 10, .l 12 1 11, .o (.len 13 (.t 12)), .o (.bin 14 .lss (.t 8) (.t 13)), .m 15 14, .wm 15 16 1, .w 15 (.bin 17 .geq (.t 16) (.ci 0)), .k 18 15 17]) (.cond (.t 18) .skip (.exit 0))) (.seq (.blk 1 (.r [.m 21 0, .n 22 21, .f 23 5 22, .l 24 1 23, .m 25 5, .o (.ia 26 6 (.t 24) (.t 25)), .m 27 1, .c 28 g [.t 26, .t 27], .m 1 28])) (.r [.m 19 5, .o (.bin 20 .add (.t 19) (.ci 1)), .m 5 20])))))) (.seq (.r [.m 29 1, .m 4 29]) .ret))))
def K_l06Left (P : Program) (fno : Nat) : Prop := ∀ (e : Pg) (l : Int) (h1 : 0 ≤ l) (h2 : l ≤ 1048576), AF P fno [.pt (eP e) 0, eI l] (.own (eI (leftP e l)))
theorem a_l06Left {P : Program} (hm : P.follows .mixedOrders = true) {g : Nat} (hr : resF P g = some (30, k_l06Left g, [.t 4])) : K_l06Left P g := by
 intro e l h1 h2
 revert l
 refine Pg.ind (p := fun e => ∀ l : Int, 0 ≤ l → l ≤ 1048576 → AF P g [.pt (eP e) 0, eI l] (.own (eI (leftP e l)))) (fun k n c nn ks ih l h1 h2 => ?_) e
 rw [eP_mk, leftP_mk]
 refine af_of_res hr hm rfl fun hb => ?_
 have hl : ks.length ≤ 9223372036854775807 := by
  have := hb.1
  simp only [D.bd, D.bdL, lM, maxEl] at this
  exact this.2.2.2.2.2.1.1
 simp +contextual -implicitDefEqProofs only [k_l06Left, go_sem, eI, ↓reduceIte, Nat.reduceEqDiff, Nat.reduceAdd]
 rw [wrap_i64 (by omega) (by omega)]
 refine vc_on (α := Nat × Int) [1, 5, 8, 9, 10, 11, 12, 13, 14, 15, 16, 17, 18, 19, 20, 21, 22, 23, 24, 25, 26, 27, 28] (fun x => [(5, .im none (.sc (.int .i64 x.1))), (1, .im none (.sc (.int .i64 x.2)))]) (fun x => x.1 ≤ ks.length ∧ -1 ≤ x.2 ∧ x.2 ≤ l ∧ leftPs (ks.drop x.1) x.2 = leftPs ks (l - 1)) (fun x => ks.length - x.1) (0, l - 1) (by simp only [subEnv, go_sem, ↓reduceIte, Nat.reduceEqDiff]; simp) ⟨Nat.zero_le _, by simp only; omega, by simp only; omega, rfl⟩ ?_
 rintro ⟨i, m⟩ j
 simp only at j
 obtain ⟨j1, j2, j3, j4⟩ := j
 by_cases hi : i < ks.length
 ·have e1 := at_map (f := eP) hi
  by_cases hm0 : 0 ≤ m
  ·have hm1 : ¬ m < 0 := by omega
   rw [leftPs_step hi hm1] at j4
   simp +contextual -implicitDefEqProofs only [e1, hi, iL, lM, iN, hm0, go_sem, ↓reduceIte, Nat.reduceEqDiff, Nat.reduceAdd, Nat.reduceLeDiff, Nat.reduceLT]
   refine callQ_self ?_ (ih ks[i] (List.getElem_mem _) m hm0 (by omega)) ?_
   ·exact rfl
   have hq := leftP_in ks[i] m hm0
   simp +contextual -implicitDefEqProofs only [go_sem, eI, ↓reduceIte, Nat.reduceEqDiff]
   rw [wrap_i64 (by omega) (by omega)]
   exact ⟨(i + 1, leftP ks[i] m), ⟨by simp only; omega, by simp only; omega, by simp only; omega, j4⟩, by simp only; omega, Ent.env (by simp only [subEnv, go_sem, ↓reduceIte, Nat.reduceEqDiff]; simp)⟩
  ·simp +contextual -implicitDefEqProofs only [hi, iL, lM, hm0, go_sem, ↓reduceIte, Nat.reduceEqDiff, Nat.reduceAdd, Nat.reduceLeDiff, Nat.reduceLT]
   exact D.Le.sc_eq (by rw [← j4, leftPs_neg (by omega)])
 ·simp +contextual -implicitDefEqProofs only [hi, iL, lM, go_sem, ↓reduceIte, Nat.reduceEqDiff, Nat.reduceAdd, Nat.reduceLeDiff, Nat.reduceLT]
  rw [List.drop_eq_nil_of_le (by omega), leftPs] at j4
  exact D.Le.sc_eq (by rw [← j4])

def k_l06Depth (g f1 : Nat) : RC := (.seq (.r [.v 2 (.ci 0)]) (.seq (.r [.v 3 (.ci 0)]) (.seq (.seq (.r [.v 4 (.ci 0)]) (.blk 0 (.loop (.seq (.seq (.r [.m 5 4, .m 6 0, .n 7 6, .f 8 5 7, .l 9 1 8, .o (.len 10 (.t 9)), .o (.bin 11 .lss (.t 5) (.t 10))]) (.cond (.t 11) .skip (.exit 0))) (.seq (.blk 1 (.r [.m 14 3, .m 15 0, .n 16 15, .f 17 5 16, .l 18 1 17, .m 19 4, .o (.ia 20 6 (.t 18) (.t 19)), .c 21 g [.t 20], .c 22 f1 [.t 14, .t 21], .m 3 22])) (.r [.m 12 4, .o (.bin 13 .add (.t 12) (.ci 1)), .m 4 13])))))) (.seq (.r [.m 23 3, .o (.bin 24 .add (.t 23) (.ci 1)), .m 2 24]) .ret))))
def K_l06Depth (P : Program) (fno : Nat) : Prop := ∀ (e : Pg) (h : sizeP e ≤ 1048576), AF P fno [.pt (eP e) 0] (.own (eI (depthP e)))
theorem a_l06Depth {P : Program} (hm : P.follows .mixedOrders = true) {g f1 : Nat} (hr : resF P g = some (25, k_l06Depth g f1, [.t 2])) (hc1 : K_l00Max P f1) : K_l06Depth P g := by
 intro e h
 revert h
 refine Pg.ind (p := fun e => sizeP e ≤ 1048576 → AF P g [.pt (eP e) 0] (.own (eI (depthP e)))) (fun k n c nn ks ih h => ?_) e
 have hd := depthP_le (.mk k n c nn ks)
 have hsz := h
 rw [sizeP_mk] at hsz
 rw [depthP_mk] at hd ⊢
 rw [eP_mk]
 refine af_of_res hr hm rfl fun hb => ?_
 have hl : ks.length ≤ 9223372036854775807 := by
  have := hb.1
  simp only [D.bd, D.bdL, lM, maxEl] at this
  exact this.2.2.2.2.2.1.1
 simp +contextual -implicitDefEqProofs only [k_l06Depth, go_sem, eI, ↓reduceIte]
 refine vc_on (α := Nat × Nat) [3, 4, 5, 6, 7, 8, 9, 10, 11, 12, 13, 14, 15, 16, 17, 18, 19, 20, 21, 22] (fun x => [(4, .im none (.sc (.int .i64 (x.1 : Nat)))), (3, .im none (.sc (.int .i64 (x.2 : Nat))))]) (fun x => x.1 ≤ ks.length ∧ max x.2 (depthPs (ks.drop x.1)) = depthPs ks) (fun x => ks.length - x.1) (0, 0) (by simp only [subEnv, go_sem, ↓reduceIte, Nat.reduceEqDiff]; simp) ⟨Nat.zero_le _, by simp⟩ ?_
 rintro ⟨i, m⟩ j
 simp only at j
 obtain ⟨j1, j4⟩ := j
 by_cases hi : i < ks.length
 ·have e1 := at_map (f := eP) hi
  rw [depthPs_step hi] at j4
  have hmm := sizeP_mem (List.getElem_mem hi)
  simp +contextual -implicitDefEqProofs only [e1, hi, iL, lM, iN, go_sem, ↓reduceIte, Nat.reduceEqDiff, Nat.reduceAdd, Nat.reduceLeDiff, Nat.reduceLT]
  refine callQ_self ?_ (ih ks[i] (List.getElem_mem _) (by omega)) ?_
  ·exact rfl
  simp +contextual -implicitDefEqProofs only [go_sem, eI, ↓reduceIte, Nat.reduceEqDiff]
  refine callQ_self ?_ (hc1 m (depthP ks[i])) ?_
  ·exact rfl
  rw [max_int]
  simp +contextual -implicitDefEqProofs only [go_sem, eI, ↓reduceIte, Nat.reduceEqDiff]
  rw [wrap_i64 (by omega) (by omega)]
  exact ⟨(i + 1, max m (depthP ks[i])), ⟨by simp only; omega, by simp only; omega⟩, by simp only; omega, Ent.env (by simp only [subEnv, go_sem, ↓reduceIte, Nat.reduceEqDiff]; simp)⟩
 ·simp +contextual -implicitDefEqProofs only [hi, iL, lM, go_sem, ↓reduceIte, Nat.reduceEqDiff, Nat.reduceAdd, Nat.reduceLeDiff, Nat.reduceLT]
  rw [List.drop_eq_nil_of_le (by omega), depthPs] at j4
  have hm' : m = depthPs ks := by omega
  rw [wrap_i64 (by omega) (by omega)]
  exact D.Le.sc_eq (by rw [hm']; congr 1; omega)

def k_l06Tree (g f1 f2 f3 f4 f5 : Nat) : RC := (.seq (.r [.b 2 2 0, .v 4 .cf]) (.seq (.seq (.reg true [.m 6 1, .n 7 6, .f 8 5 7, .l 9 1 8, .o (.len 10 (.t 9)), .m 11 1, .n 12 11, .f 13 0 12, .l 14 1 13, .c 15 f1 [.t 14], .o (.bin 16 .neq (.t 10) (.t 15))]) (.cond (.t 16) (.seq (.r [.v 4 .cf]) .ret) .skip)) (.seq (.seq (.reg true [.m 17 1, .n 18 17, .f 19 0 18, .l 20 1 19, .q 21 20 3, .m 22 21, .wm 22 23 1, .w 22 (.nck 24 (.t 23)), .w 22 (.fa 25 1 (.t 24)), .w 22 (.ld 26 false 1 (.t 25)), .w 22 (.fa 27 1 (.t 2)), .w 22 (.ld 28 false 1 (.t 27)), .w 22 (.bin 29 .sub (.t 28) (.ci 1)), .w 22 (.call (some 30) f2 [.t 26, .ci 0, .t 29]), .w 22 (.un 31 .not (.t 30)), .k 32 22 31, .m 33 32, .u 33 (.mv 34 (.t 1)), .u 33 (.nck 35 (.t 34)), .u 33 (.fa 36 0 (.t 35)), .u 33 (.ld 37 false 1 (.t 36)), .u 33 (.bin 38 .neq (.t 37) (.ci 3)), .u 33 (.mv 39 (.t 38)), .wm 39 40 1, .w 39 (.nck 41 (.t 40)), .w 39 (.fa 42 1 (.t 41)), .w 39 (.ld 43 false 1 (.t 42)), .w 39 (.bin 44 .neq (.t 43) (.ci 0)), .u 33 (.pick 45 (.t 39) (.t 44) .cf), .o (.pick 46 (.t 33) .ct (.t 45))]) (.cond (.t 46) (.seq (.r [.v 4 .cf]) .ret) .skip)) (.seq (.seq (.reg true [.m 47 1, .n 48 47, .f 49 0 48, .l 50 1 49, .c 51 f3 [.t 50], .m 52 51, .w 52 (.ld 53 true 2 (.t 2)), .wm 52 54 1, .w 52 (.nck 55 (.t 54)), .w 52 (.fa 56 2 (.t 55)), .w 52 (.call (some 57) f4 [.t 53, .t 56]), .w 52 (.un 58 .not (.t 57)), .k 59 52 58, .m 60 59, .u 60 (.mv 61 (.t 1)), .u 60 (.nck 62 (.t 61)), .u 60 (.fa 63 0 (.t 62)), .u 60 (.ld 64 false 1 (.t 63)), .u 60 (.call (some 65) f3 [.t 64]), .u 60 (.un 66 .not (.t 65)), .u 60 (.mv 67 (.t 66)), .wm 67 68 1, .w 67 (.nck 69 (.t 68)), .w 67 (.fa 70 2 (.t 69)), .w 67 (.call (some 71) f5 [.t 70]), .w 67 (.un 72 .not (.t 71)), .u 60 (.pick 73 (.t 67) (.t 72) .cf), .o (.pick 74 (.t 60) .ct (.t 73))]) (.cond (.t 74) (.seq (.r [.v 4 .cf]) .ret) .skip)) (.seq (.seq (.r [.v 5 (.ci 0)]) (.blk 0 (.loop (.seq (.seq (.r [.m 75 5, .m 76 1, .n 77 76, .f 78 5 77, .l 79 1 78, .o (.len 80 (.t 79)), .o (.bin 81 .lss (.t 75) (.t 80))]) (.cond (.t 81) .skip (.exit 0))) (.seq (.blk 1 (.seq (.reg true [.L 84 2 2, .m 85 1, .n 86 85, .f 87 5 86, .l 88 1 87, .m 89 5, .o (.ia 90 6 (.t 88) (.t 89)), .c 91 g [.t 84, .t 90], .o (.un 92 .not (.t 91))]) (.cond (.t 92) (.seq (.r [.v 4 .cf]) .ret) .skip))) (.r [.m 82 5, .o (.bin 83 .add (.t 82) (.ci 1)), .m 5 83])))))) (.seq (.r [.v 4 .ct]) .ret))))))
def K_l06Tree (P : Program) (fno : Nat) : Prop := ∀ (g : Int × Int) (e : Pg) (hg : okG g = true), AF P fno [eG g, .pt (eP e) 0] (.own (eB (treeP g e)))
theorem a_l06Tree {P : Program} (hm : P.follows .mixedOrders = true) {g f1 f2 f3 f4 f5 : Nat} (hr : resF P g = some (93, k_l06Tree g f1 f2 f3 f4 f5, [.t 4])) (hc1 : K_l06Kids P f1) (hc2 : K_l00In P f2) (hc3 : K_l06Asks P f3) (hc4 : K_l06Cond P f4) (hc5 : K_l06None P f5) : K_l06Tree P g := by
 intro g e hg
 rename_i gg
 refine Pg.ind (p := fun e => AF P gg [eG g, .pt (eP e) 0] (.own (eB (treeP g e)))) (fun k n c nn ks ih => ?_) e
 rw [eP_mk, treeP_mk]
 refine af_of_res hr hm rfl fun hb => ?_
 have hl : ks.length ≤ 9223372036854775807 := by
  have := hb.2.1
  simp only [D.bd, D.bdL, lM, maxEl] at this
  exact this.2.2.2.2.2.1.1
 simp +contextual -implicitDefEqProofs only [k_l06Tree, eG, lM, bU, go_sem, eI, eB, ↓reduceIte, Nat.reduceEqDiff, Nat.reduceAdd, Nat.reduceLeDiff, Nat.reduceLT]
 refine callQ_self ?_ (hc1 k) ?_
 ·exact rfl
 cases hk : (kidsP k == (ks.length : Int))
 ·have hk2 : ((ks.length : Int) == kidsP k) = false := by simp at hk ⊢; omega
  simp +contextual -implicitDefEqProofs only [hk2, bne, bN, go_sem, eI, ↓reduceIte, Nat.reduceEqDiff]
  exact D.Le.sc_eq (by simp [formP, hk])
 have hk2 : ((ks.length : Int) == kidsP k) = true := by simp at hk ⊢; omega
 cases b3 : (k == 3)
 ·cases hn : (n == 0)
  ·simp +contextual -implicitDefEqProofs only [hk2, b3, hn, bne, bT, bN, go_sem, eI, ↓reduceIte, Nat.reduceEqDiff, Nat.reduceAdd, Nat.reduceLeDiff, Nat.reduceLT]
   exact D.Le.sc_eq (by simp [formP, hk, b3, hn, numP])
  simp +contextual -implicitDefEqProofs only [hk2, b3, hn, bne, bT, bN, go_sem, eI, ↓reduceIte, Nat.reduceEqDiff, Nat.reduceAdd, Nat.reduceLeDiff, Nat.reduceLT]
  refine callQ_self ?_ (hc3 k) ?_
  ·exact rfl
  cases ha : asksP k
  ·simp +contextual -implicitDefEqProofs only [go_sem, eB, ↓reduceIte, Nat.reduceEqDiff, Nat.reduceAdd, Nat.reduceLeDiff, Nat.reduceLT]
   refine callQ_self ?_ (hc3 k) ?_
   ·exact rfl
   simp +contextual -implicitDefEqProofs only [ha, bN, go_sem, eB, ↓reduceIte, Nat.reduceEqDiff, Nat.reduceAdd, Nat.reduceLT]
   refine callQ_le (es := [.pt (eE c) 0]) rfl ⟨D.LeA.sub (sz := 3) (by simp [D.size, D.sizeL]) rfl (by omega) (by rw [eE_eta]; rfl), trivial⟩ (hc5 c) ?_
   cases hc : noneE c
   ·simp +contextual -implicitDefEqProofs only [bN, go_sem, eB, ↓reduceIte, Nat.reduceEqDiff]
    exact D.Le.sc_eq (by simp [formP, hk, b3, hn, numP, ha, hc, cP])
   ·simp +contextual -implicitDefEqProofs only [bT, go_sem, eB, ↓reduceIte, Nat.reduceEqDiff]
    have hF : formP g k n c ks = true := by simp [formP, hk, b3, hn, numP, ha, hc, cP]
    rw [hF, bI]
    refine vc_on (α := Nat) [4, 5, 75, 76, 77, 78, 79, 80, 81, 82, 83, 84, 85, 86, 87, 88, 89, 90, 91, 92] (fun i => [(5, .im none (.sc (.int .i64 i)))]) (fun i => i ≤ ks.length ∧ (ks.take i).all (treeP g) = true) (fun i => ks.length - i) 0 (by simp only [subEnv, go_sem, ↓reduceIte]; simp) ⟨Nat.zero_le _, rfl⟩ ?_
    rintro i ⟨j1, j2⟩
    by_cases hi : i < ks.length
    ·have e1 := at_map (f := eP) hi
     simp +contextual -implicitDefEqProofs only [e1, hi, iL, lM, iN, go_sem, ↓reduceIte, Nat.reduceEqDiff, Nat.reduceAdd, Nat.reduceLeDiff, Nat.reduceLT]
     refine callQ_self ?_ (ih ks[i] (List.getElem_mem _)) ?_
     ·exact rfl
     cases hx : treeP g ks[i]
     ·simp +contextual -implicitDefEqProofs only [bN, go_sem, eB, ↓reduceIte]
      exact D.Le.sc_eq (by rw [all_fail hi hx])
     ·simp +contextual -implicitDefEqProofs only [bT, go_sem, eB, ↓reduceIte, Nat.reduceEqDiff]
      rw [wrap_i64 (by omega) (by omega)]
      exact ⟨i + 1, ⟨by omega, all_take_succ hi j2 hx⟩, by omega, Ent.env (by simp only [subEnv, go_sem, ↓reduceIte, Nat.reduceEqDiff]; simp)⟩
    ·simp +contextual -implicitDefEqProofs only [hi, iL, lM, go_sem, ↓reduceIte, Nat.reduceEqDiff, Nat.reduceAdd, Nat.reduceLeDiff, Nat.reduceLT]
     exact D.Le.sc_eq (by rw [all_of_take hi j2])
  ·simp +contextual -implicitDefEqProofs only [go_sem, eB, ↓reduceIte, Nat.reduceEqDiff, Nat.reduceAdd, Nat.reduceLeDiff, Nat.reduceLT]
   refine callQ_le (es := [eG g, .pt (eE c) 0]) rfl ⟨D.LeA.refl _, D.LeA.sub (sz := 3) (by simp [D.size, D.sizeL]) rfl (by omega) (by rw [eE_eta]; rfl), trivial⟩ (hc4 g c hg) ?_
   cases hc : condOk g c
   ·simp +contextual -implicitDefEqProofs only [bN, go_sem, eB, ↓reduceIte, Nat.reduceEqDiff]
    exact D.Le.sc_eq (by simp [formP, hk, b3, hn, numP, ha, hc, cP])
   ·simp +contextual -implicitDefEqProofs only [bT, go_sem, eB, ↓reduceIte, Nat.reduceEqDiff, Nat.reduceAdd, Nat.reduceLeDiff, Nat.reduceLT]
    refine callQ_self ?_ (hc3 k) ?_
    ·exact rfl
    simp +contextual -implicitDefEqProofs only [ha, bT, go_sem, eB, ↓reduceIte, Nat.reduceEqDiff]
    have hF : formP g k n c ks = true := by simp [formP, hk, b3, hn, numP, ha, hc, cP]
    rw [hF, bI]
    refine vc_on (α := Nat) [4, 5, 75, 76, 77, 78, 79, 80, 81, 82, 83, 84, 85, 86, 87, 88, 89, 90, 91, 92] (fun i => [(5, .im none (.sc (.int .i64 i)))]) (fun i => i ≤ ks.length ∧ (ks.take i).all (treeP g) = true) (fun i => ks.length - i) 0 (by simp only [subEnv, go_sem, ↓reduceIte]; simp) ⟨Nat.zero_le _, rfl⟩ ?_
    rintro i ⟨j1, j2⟩
    by_cases hi : i < ks.length
    ·have e1 := at_map (f := eP) hi
     simp +contextual -implicitDefEqProofs only [e1, hi, iL, lM, iN, go_sem, ↓reduceIte, Nat.reduceEqDiff, Nat.reduceAdd, Nat.reduceLeDiff, Nat.reduceLT]
     refine callQ_self ?_ (ih ks[i] (List.getElem_mem _)) ?_
     ·exact rfl
     cases hx : treeP g ks[i]
     ·simp +contextual -implicitDefEqProofs only [bN, go_sem, eB, ↓reduceIte]
      exact D.Le.sc_eq (by rw [all_fail hi hx])
     ·simp +contextual -implicitDefEqProofs only [bT, go_sem, eB, ↓reduceIte, Nat.reduceEqDiff]
      rw [wrap_i64 (by omega) (by omega)]
      exact ⟨i + 1, ⟨by omega, all_take_succ hi j2 hx⟩, by omega, Ent.env (by simp only [subEnv, go_sem, ↓reduceIte, Nat.reduceEqDiff]; simp)⟩
    ·simp +contextual -implicitDefEqProofs only [hi, iL, lM, go_sem, ↓reduceIte, Nat.reduceEqDiff, Nat.reduceAdd, Nat.reduceLeDiff, Nat.reduceLT]
     exact D.Le.sc_eq (by rw [all_of_take hi j2])
 ·simp +contextual -implicitDefEqProofs only [hk2, b3, bne, bT, go_sem, eI, ↓reduceIte, Nat.reduceEqDiff, Nat.reduceAdd, Nat.reduceLeDiff, Nat.reduceLT]
  refine callQ_self ?_ (hc2 n 0 (IntKind.i64.wrap (g.2 - 1))) ?_
  ·exact rfl
  cases hw : isIn n 0 (IntKind.i64.wrap (g.2 - 1))
  ·simp +contextual -implicitDefEqProofs only [bN, go_sem, eB, ↓reduceIte, Nat.reduceEqDiff]
   exact D.Le.sc_eq (by simp [formP, hk, b3, hw, numP])
  simp +contextual -implicitDefEqProofs only [b3, bne, bT, go_sem, eB, ↓reduceIte, Nat.reduceEqDiff, Nat.reduceAdd, Nat.reduceLeDiff, Nat.reduceLT]
  refine callQ_self ?_ (hc3 k) ?_
  ·exact rfl
  cases ha : asksP k
  ·simp +contextual -implicitDefEqProofs only [go_sem, eB, ↓reduceIte, Nat.reduceEqDiff, Nat.reduceAdd, Nat.reduceLeDiff, Nat.reduceLT]
   refine callQ_self ?_ (hc3 k) ?_
   ·exact rfl
   simp +contextual -implicitDefEqProofs only [ha, bN, go_sem, eB, ↓reduceIte, Nat.reduceEqDiff, Nat.reduceAdd, Nat.reduceLT]
   refine callQ_le (es := [.pt (eE c) 0]) rfl ⟨D.LeA.sub (sz := 3) (by simp [D.size, D.sizeL]) rfl (by omega) (by rw [eE_eta]; rfl), trivial⟩ (hc5 c) ?_
   cases hc : noneE c
   ·simp +contextual -implicitDefEqProofs only [bN, go_sem, eB, ↓reduceIte, Nat.reduceEqDiff]
    exact D.Le.sc_eq (by simp [formP, hk, b3, hw, numP, ha, hc, cP])
   ·simp +contextual -implicitDefEqProofs only [bT, go_sem, eB, ↓reduceIte, Nat.reduceEqDiff]
    have hF : formP g k n c ks = true := by simp [formP, hk, b3, hw, numP, ha, hc, cP]
    rw [hF, bI]
    refine vc_on (α := Nat) [4, 5, 75, 76, 77, 78, 79, 80, 81, 82, 83, 84, 85, 86, 87, 88, 89, 90, 91, 92] (fun i => [(5, .im none (.sc (.int .i64 i)))]) (fun i => i ≤ ks.length ∧ (ks.take i).all (treeP g) = true) (fun i => ks.length - i) 0 (by simp only [subEnv, go_sem, ↓reduceIte]; simp) ⟨Nat.zero_le _, rfl⟩ ?_
    rintro i ⟨j1, j2⟩
    by_cases hi : i < ks.length
    ·have e1 := at_map (f := eP) hi
     simp +contextual -implicitDefEqProofs only [e1, hi, iL, lM, iN, go_sem, ↓reduceIte, Nat.reduceEqDiff, Nat.reduceAdd, Nat.reduceLeDiff, Nat.reduceLT]
     refine callQ_self ?_ (ih ks[i] (List.getElem_mem _)) ?_
     ·exact rfl
     cases hx : treeP g ks[i]
     ·simp +contextual -implicitDefEqProofs only [bN, go_sem, eB, ↓reduceIte]
      exact D.Le.sc_eq (by rw [all_fail hi hx])
     ·simp +contextual -implicitDefEqProofs only [bT, go_sem, eB, ↓reduceIte, Nat.reduceEqDiff]
      rw [wrap_i64 (by omega) (by omega)]
      exact ⟨i + 1, ⟨by omega, all_take_succ hi j2 hx⟩, by omega, Ent.env (by simp only [subEnv, go_sem, ↓reduceIte, Nat.reduceEqDiff]; simp)⟩
    ·simp +contextual -implicitDefEqProofs only [hi, iL, lM, go_sem, ↓reduceIte, Nat.reduceEqDiff, Nat.reduceAdd, Nat.reduceLeDiff, Nat.reduceLT]
     exact D.Le.sc_eq (by rw [all_of_take hi j2])
  ·simp +contextual -implicitDefEqProofs only [go_sem, eB, ↓reduceIte, Nat.reduceEqDiff, Nat.reduceAdd, Nat.reduceLeDiff, Nat.reduceLT]
   refine callQ_le (es := [eG g, .pt (eE c) 0]) rfl ⟨D.LeA.refl _, D.LeA.sub (sz := 3) (by simp [D.size, D.sizeL]) rfl (by omega) (by rw [eE_eta]; rfl), trivial⟩ (hc4 g c hg) ?_
   cases hc : condOk g c
   ·simp +contextual -implicitDefEqProofs only [bN, go_sem, eB, ↓reduceIte, Nat.reduceEqDiff]
    exact D.Le.sc_eq (by simp [formP, hk, b3, hw, numP, ha, hc, cP])
   ·simp +contextual -implicitDefEqProofs only [bT, go_sem, eB, ↓reduceIte, Nat.reduceEqDiff, Nat.reduceAdd, Nat.reduceLeDiff, Nat.reduceLT]
    refine callQ_self ?_ (hc3 k) ?_
    ·exact rfl
    simp +contextual -implicitDefEqProofs only [ha, bT, go_sem, eB, ↓reduceIte, Nat.reduceEqDiff]
    have hF : formP g k n c ks = true := by simp [formP, hk, b3, hw, numP, ha, hc, cP]
    rw [hF, bI]
    refine vc_on (α := Nat) [4, 5, 75, 76, 77, 78, 79, 80, 81, 82, 83, 84, 85, 86, 87, 88, 89, 90, 91, 92] (fun i => [(5, .im none (.sc (.int .i64 i)))]) (fun i => i ≤ ks.length ∧ (ks.take i).all (treeP g) = true) (fun i => ks.length - i) 0 (by simp only [subEnv, go_sem, ↓reduceIte]; simp) ⟨Nat.zero_le _, rfl⟩ ?_
    rintro i ⟨j1, j2⟩
    by_cases hi : i < ks.length
    ·have e1 := at_map (f := eP) hi
     simp +contextual -implicitDefEqProofs only [e1, hi, iL, lM, iN, go_sem, ↓reduceIte, Nat.reduceEqDiff, Nat.reduceAdd, Nat.reduceLeDiff, Nat.reduceLT]
     refine callQ_self ?_ (ih ks[i] (List.getElem_mem _)) ?_
     ·exact rfl
     cases hx : treeP g ks[i]
     ·simp +contextual -implicitDefEqProofs only [bN, go_sem, eB, ↓reduceIte]
      exact D.Le.sc_eq (by rw [all_fail hi hx])
     ·simp +contextual -implicitDefEqProofs only [bT, go_sem, eB, ↓reduceIte, Nat.reduceEqDiff]
      rw [wrap_i64 (by omega) (by omega)]
      exact ⟨i + 1, ⟨by omega, all_take_succ hi j2 hx⟩, by omega, Ent.env (by simp only [subEnv, go_sem, ↓reduceIte, Nat.reduceEqDiff]; simp)⟩
    ·simp +contextual -implicitDefEqProofs only [hi, iL, lM, go_sem, ↓reduceIte, Nat.reduceEqDiff, Nat.reduceAdd, Nat.reduceLeDiff, Nat.reduceLT]
     exact D.Le.sc_eq (by rw [all_of_take hi j2])

def k_l06Ok (f1 f2 f3 f4 : Nat) : RC := (.seq (.r [.b 2 2 0, .v 4 .cf]) (.seq (.r [.L 5 2 2, .c 6 f1 [.t 5], .m 7 6, .wm 7 8 1, .w 7 (.call (some 9) f2 [.t 8, .ci 60]), .w 7 (.bin 10 .geq (.t 9) (.ci 0)), .k 11 7 10, .m 12 11, .wm 12 13 1, .w 12 (.call (some 14) f3 [.t 13]), .w 12 (.bin 15 .leq (.t 14) (.ci 20)), .k 16 12 15, .m 17 16, .w 17 (.ld 18 true 2 (.t 2)), .wm 17 19 1, .w 17 (.call (some 20) f4 [.t 18, .t 19]), .k 21 17 20, .m 4 21]) .ret))
def K_l06Ok (P : Program) (fno : Nat) : Prop := ∀ (g : Int × Int) (e : Pg), AF P fno [eG g, .pt (eP e) 0] (.own (eB (okG g && okP g e)))
theorem a_l06Ok {P : Program} (hm : P.follows .mixedOrders = true) {g f1 f2 f3 f4 : Nat} (hr : resF P g = some (22, k_l06Ok f1 f2 f3 f4, [.t 4])) (hc1 : K_l01Sig P f1) (hc2 : K_l06Left P f2) (hc3 : K_l06Depth P f3) (hc4 : K_l06Tree P f4) : K_l06Ok P g := by
 intro g e
 refine af_of_res hr hm rfl fun hb => ?_
 simp +contextual -implicitDefEqProofs only [k_l06Ok, eG, go_sem, eI, eB, ↓reduceIte, Nat.reduceEqDiff, Nat.reduceAdd, Nat.reduceLeDiff, Nat.reduceLT]
 refine callQ_self ?_ (hc1 g) ?_
 ·exact rfl
 cases hg : okG g
 ·simp +contextual -implicitDefEqProofs only [bG, go_sem, eB, ↓reduceIte, Nat.reduceEqDiff]
 simp +contextual -implicitDefEqProofs only [bI, go_sem, eB, ↓reduceIte, Nat.reduceEqDiff]
 refine callQ_self ?_ (hc2 e 60 (by omega) (by omega)) ?_
 ·exact rfl
 have hl := leftP_in e 60 (by omega)
 by_cases h1 : sizeP e ≤ 60
 ·have h1' : 0 ≤ leftP e 60 := hl.2.2.1.2 (by omega)
  simp +contextual -implicitDefEqProofs only [okP, h1, h1', bI, go_sem, eI, ↓reduceIte, Nat.reduceEqDiff]
  refine callQ_self ?_ (hc3 e (by omega)) ?_
  ·exact rfl
  by_cases h2 : depthP e ≤ 20
  ·have h2' : (depthP e : Int) ≤ 20 := by omega
   simp +contextual -implicitDefEqProofs only [h2, h2', bI, go_sem, eI, ↓reduceIte, Nat.reduceEqDiff, Nat.reduceLeDiff]
   refine callQ_self ?_ (hc4 g e hg) ?_
   ·exact rfl
   simp +contextual -implicitDefEqProofs only [go_sem, eB, ↓reduceIte, Nat.reduceEqDiff]
  ·have h2' : ¬ (depthP e : Int) ≤ 20 := by omega
   simp +contextual -implicitDefEqProofs only [h2, h2', bG, go_sem, eI, ↓reduceIte, Nat.reduceEqDiff]
 ·have h1' : ¬ 0 ≤ leftP e 60 := fun h => h1 (by have := hl.2.2.1.1 h; omega)
  simp +contextual -implicitDefEqProofs only [okP, h1, h1', bG, go_sem, eI, ↓reduceIte, Nat.reduceEqDiff]


def subM (e : List (Nat × MV)) : List (Nat × MV) → Prop
 | [] => True
 | (k, v) :: r => mlk e k = v ∧ subM e r
theorem subM_lk {e : List (Nat × MV)} : ∀ {e' : List (Nat × MV)}, subM e e' → ∀ t, mlk e' t = .any ∨ mlk e' t = mlk e t
 | [], _, t => .inl rfl
 | (k, v) :: r, h, t => by
  simp only [mlk]
  split
  ·next hk => subst hk; exact .inr h.1.symm
  ·exact subM_lk h.2 t
theorem MEnt.env {bx : Bool} {ds ds' : List D} {e e' : List (Nat × MV)} (hd : ds' = ds) (h : subM e e') : MEnt ⟨bx, ds, e⟩ ⟨bx, ds', e'⟩ := ⟨rfl, hd, subM_lk h⟩

def mkL {α : Type} (mk : α → Int → α) (cnt : α → Nat) : List α → Int → List α
 | [], _ => []
 | x :: r, k => mk x k :: mkL mk cnt r (k + cnt x)
def cntL {α : Type} (cnt : α → Nat) : List α → Nat
 | [] => 0
 | x :: r => cnt x + cntL cnt r
section
variable {α : Type} {mk : α → Int → α} {cnt : α → Nat}
theorem mkL_length : ∀ {l : List α} {k : Int}, (mkL mk cnt l k).length = l.length
 | [], _ => rfl
 | x :: r, k => by simp [mkL, mkL_length (l := r)]
theorem cntL_append : ∀ {a b : List α}, cntL cnt (a ++ b) = cntL cnt a + cntL cnt b
 | [], b => by simp [cntL]
 | x :: a, b => by simp [cntL, cntL_append (a := a)]; omega
theorem mkL_append : ∀ {a b : List α} {k : Int}, mkL mk cnt (a ++ b) k = mkL mk cnt a k ++ mkL mk cnt b (k + cntL cnt a)
 | [], b, k => by simp [mkL, cntL]
 | x :: a, b, k => by simp only [List.cons_append, mkL, mkL_append (a := a), cntL]; congr 3; push_cast; omega
def mhalf (mk : α → Int → α) (cnt : α → Nat) (l : List α) (k : Int) (i : Nat) : List α := mkL mk cnt (l.take i) k ++ l.drop i
theorem mhalf_len {l : List α} {k : Int} {i : Nat} : (mhalf mk cnt l k i).length = l.length := by
 simp [mhalf, mkL_length]; omega
theorem mhalf_zero {l : List α} {k : Int} : mhalf mk cnt l k 0 = l := by simp [mhalf, mkL]
theorem mhalf_full {l : List α} {k : Int} {i : Nat} (h : l.length ≤ i) : mhalf mk cnt l k i = mkL mk cnt l k := by
 simp [mhalf, List.take_of_length_le h, List.drop_eq_nil_of_le h]
theorem mhalf_get {l : List α} {k : Int} {i : Nat} (h : i < l.length) : (mhalf mk cnt l k i)[i]'(by rw [mhalf_len]; exact h) = l[i] := by
 unfold mhalf
 rw [List.getElem_append_right (by simp [mkL_length]; omega)]
 simp [mkL_length, Nat.min_eq_left (Nat.le_of_lt h)]
theorem cntL_succ {l : List α} {i : Nat} (h : i < l.length) : cntL cnt (l.take (i + 1)) = cntL cnt (l.take i) + cnt l[i] := by
 rw [List.take_succ_eq_append_getElem h, cntL_append]; simp [cntL]
theorem cntL_le {l : List α} {i : Nat} : cntL cnt (l.take i) ≤ cntL cnt l := by
 conv => rhs; rw [← List.take_append_drop i l, cntL_append]
 omega
theorem mhalf_set {l : List α} {k : Int} {i : Nat} (h : i < l.length) : (mhalf mk cnt l k i).set i (mk l[i] (k + cntL cnt (l.take i))) = mhalf mk cnt l k (i + 1) := by
 unfold mhalf
 have h1 : (mkL mk cnt (l.take i) k).length = i := by simp [mkL_length]; omega
 rw [List.set_append_right _ _ (by omega), h1, Nat.sub_self, List.take_succ_eq_append_getElem h, mkL_append, List.append_assoc, List.drop_eq_getElem_cons h, List.set_cons_zero]
 simp [mkL]
theorem mhalf_at {f : α → D} {l : List α} {k : Int} {i : Nat} (h : i < l.length) : D.at ((mhalf mk cnt l k i).map f) i = f l[i] := by
 rw [at_map (by rw [mhalf_len]; exact h), mhalf_get h]
theorem mhalf_mset {f : α → D} {l : List α} {k : Int} {i : Nat} (h : i < l.length) {d : D} (hd : d = f (mk l[i] (k + cntL cnt (l.take i)))) : ((mhalf mk cnt l k i).map f).set i d = (mhalf mk cnt l k (i + 1)).map f := by
 rw [hd, ← List.map_set, mhalf_set h]
theorem mkL_get {l : List α} {k : Int} {i : Nat} (h : i < l.length) : (mkL mk cnt l k)[i]'(by rw [mkL_length]; exact h) = mk l[i] (k + cntL cnt (l.take i)) := by
 induction l generalizing k i with
 | nil => simp at h
 | cons x r ih =>
  cases i with
  | zero => simp [mkL, cntL]
  | succ i =>
   simp only [mkL, List.getElem_cons_succ, List.take_succ_cons, cntL]
   rw [ih (by simpa using h)]
   congr 1
   push_cast
   omega
theorem mkL_at {f : α → D} {l : List α} {k : Int} {i : Nat} (h : i < l.length) : D.at ((mkL mk cnt l k).map f) i = f (mk l[i] (k + cntL cnt (l.take i))) := by
 rw [at_map (by rw [mkL_length]; exact h), mkL_get h]
end
def maxK : Int := 4611686018427387904
def cMkI : RC :=
 (.seq
  (.reg false [⟨none, .mv 4 (.c (.sc (.int .i64 0)))⟩])
  ((.seq
   ((.seq
    (.reg false [⟨none, .mv 5 (.c (.sc (.int .i64 0)))⟩])
    (.blk 0
     (.loop
      ((.seq
       ((.seq
        (.reg false [⟨none, .mv 6 (.t 5)⟩,
          ⟨none, .mv 7 (.t 0)⟩,
          ⟨none, .len 8 (.t 7)⟩,
          ⟨none, .bin 9 .lss (.t 6) (.t 8)⟩])
        (.cond (.t 9)
         (.skip)
         (.exit 0))))
       ((.seq
        (.blk 1
         ((.seq
          (.reg false [⟨none, .mv 12 (.t 0)⟩,
            ⟨none, .mv 13 (.t 5)⟩,
            ⟨none, .mv 14 (.t 1)⟩,
            ⟨none, .ia 15 1 (.t 12) (.t 13)⟩,
            ⟨none, .st 1 (.t 15) (.t 14)⟩])
          (.reg false [⟨none, .mv 16 (.t 1)⟩,
            ⟨none, .bin 17 .add (.t 16) (.c (.sc (.int .i64 1)))⟩,
            ⟨none, .mv 1 (.t 17)⟩]))))
        (.reg false [⟨none, .mv 10 (.t 5)⟩,
          ⟨none, .bin 11 .add (.t 10) (.c (.sc (.int .i64 1)))⟩,
          ⟨none, .mv 5 (.t 11)⟩])))))))))
   ((.seq
    (.reg false [⟨none, .mv 18 (.t 1)⟩,
      ⟨none, .mv 4 (.t 18)⟩])
    (.ret))))))
def cHdI : RC :=
 (.seq
  (.reg false [⟨none, .mv 4 (.c (.sc (.int .i64 0)))⟩])
  ((.seq
   ((.seq
    (.reg false [⟨none, .mv 5 (.c (.sc (.int .i64 0)))⟩])
    (.blk 0
     (.loop
      ((.seq
       ((.seq
        (.reg false [⟨none, .mv 6 (.t 5)⟩,
          ⟨none, .mv 7 (.t 0)⟩,
          ⟨none, .len 8 (.t 7)⟩,
          ⟨none, .bin 9 .lss (.t 6) (.t 8)⟩])
        (.cond (.t 9)
         (.skip)
         (.exit 0))))
       ((.seq
        (.blk 1
         ((.seq
          ((.seq
           (.reg false [⟨none, .mv 12 (.t 0)⟩,
             ⟨none, .mv 13 (.t 5)⟩,
             ⟨none, .ia 14 1 (.t 12) (.t 13)⟩,
             ⟨none, .ld 15 false 1 (.t 14)⟩,
             ⟨none, .mv 16 (.t 1)⟩,
             ⟨none, .bin 17 .neq (.t 15) (.t 16)⟩])
           (.cond (.t 17)
            ((.seq
             (.reg false [⟨none, .mv 4 (.c (.sc (.int .i64 (-1))))⟩])
             (.ret)))
            (.skip))))
          (.reg false [⟨none, .mv 18 (.t 1)⟩,
            ⟨none, .bin 19 .add (.t 18) (.c (.sc (.int .i64 1)))⟩,
            ⟨none, .mv 1 (.t 19)⟩]))))
        (.reg false [⟨none, .mv 10 (.t 5)⟩,
          ⟨none, .bin 11 .add (.t 10) (.c (.sc (.int .i64 1)))⟩,
          ⟨none, .mv 5 (.t 11)⟩])))))))))
   ((.seq
    (.reg false [⟨none, .mv 20 (.t 1)⟩,
      ⟨none, .mv 4 (.t 20)⟩])
    (.ret))))))
def cMkC (f : Nat) : RC :=
 (.seq
  (.reg false [⟨none, .mv 4 (.c (.sc (.int .i64 0)))⟩])
  ((.seq
   ((.seq
    (.reg false [⟨none, .mv 5 (.c (.sc (.int .i64 0)))⟩])
    (.blk 0
     (.loop
      ((.seq
       ((.seq
        (.reg false [⟨none, .mv 6 (.t 5)⟩,
          ⟨none, .mv 7 (.t 0)⟩,
          ⟨none, .len 8 (.t 7)⟩,
          ⟨none, .bin 9 .lss (.t 6) (.t 8)⟩])
        (.cond (.t 9)
         (.skip)
         (.exit 0))))
       ((.seq
        (.blk 1
         (.reg false [⟨none, .mv 12 (.t 0)⟩,
           ⟨none, .mv 13 (.t 5)⟩,
           ⟨none, .ia 14 1 (.t 12) (.t 13)⟩,
           ⟨none, .ld 15 false 1 (.t 14)⟩,
           ⟨none, .mv 16 (.t 1)⟩,
           ⟨none, .mcl 17 f (.t 15) (.t 16)⟩,
           ⟨none, .mv 1 (.t 17)⟩]))
        (.reg false [⟨none, .mv 10 (.t 5)⟩,
          ⟨none, .bin 11 .add (.t 10) (.c (.sc (.int .i64 1)))⟩,
          ⟨none, .mv 5 (.t 11)⟩])))))))))
   ((.seq
    (.reg false [⟨none, .mv 18 (.t 1)⟩,
      ⟨none, .mv 4 (.t 18)⟩])
    (.ret))))))
def cHdC (f : Nat) : RC :=
 (.seq
  (.reg false [⟨none, .mv 4 (.c (.sc (.int .i64 0)))⟩])
  ((.seq
   ((.seq
    (.reg false [⟨none, .mv 5 (.c (.sc (.int .i64 0)))⟩])
    (.blk 0
     (.loop
      ((.seq
       ((.seq
        (.reg false [⟨none, .mv 6 (.t 5)⟩,
          ⟨none, .mv 7 (.t 0)⟩,
          ⟨none, .len 8 (.t 7)⟩,
          ⟨none, .bin 9 .lss (.t 6) (.t 8)⟩])
        (.cond (.t 9)
         (.skip)
         (.exit 0))))
       ((.seq
        (.blk 1
         ((.seq
          (.reg false [⟨none, .mv 12 (.t 0)⟩,
            ⟨none, .mv 13 (.t 5)⟩,
            ⟨none, .ia 14 1 (.t 12) (.t 13)⟩,
            ⟨none, .ld 15 false 1 (.t 14)⟩,
            ⟨none, .mv 16 (.t 1)⟩,
            ⟨none, .call (some 17) f [(.t 15), (.t 16)]⟩,
            ⟨none, .mv 1 (.t 17)⟩])
          ((.seq
           (.reg false [⟨none, .mv 18 (.t 1)⟩,
             ⟨none, .bin 19 .lss (.t 18) (.c (.sc (.int .i64 0)))⟩])
           (.cond (.t 19)
            ((.seq
             (.reg false [⟨none, .mv 4 (.c (.sc (.int .i64 (-1))))⟩])
             (.ret)))
            (.skip)))))))
        (.reg false [⟨none, .mv 10 (.t 5)⟩,
          ⟨none, .bin 11 .add (.t 10) (.c (.sc (.int .i64 1)))⟩,
          ⟨none, .mv 5 (.t 11)⟩])))))))))
   ((.seq
    (.reg false [⟨none, .mv 20 (.t 1)⟩,
      ⟨none, .mv 4 (.t 20)⟩])
    (.ret))))))
def mkI (_ : Int) (k : Int) : Int := k
def one {α : Type} (_ : α) : Nat := 1
theorem one_eq {α : Type} (x : α) : one x = 1 := rfl
theorem af_mkI {P : Program} {g : Nat} (hr : resF P g = some (19, cMkI, [.t 4])) (nn : Option Bool) (xs : List Int) (k : Int) (h0 : 0 ≤ k) (hb : k + cntL one xs ≤ maxK) :
  AFM P g (.ls nn 1 (xs.map eI)) k (.ls nn 1 ((mkL mkI one xs k).map eI)) (k + cntL one xs) := by
 unfold maxK at hb
 refine afm_ls hr (by omega) (by simp [mkL_length]) fun hmx bx hbx => ?_
 have hmx : xs.length ≤ 9223372036854775807 := by simpa [maxEl] using hmx
 simp +contextual -implicitDefEqProofs only [cMkI, go_sem]
 refine m_loop (α := Nat) (fun i => ⟨bx, (mhalf mkI one xs k i).map eI, [(0, .rt), (1, .va (.int .i64 (k + cntL one (xs.take i)))), (5, .va (.int .i64 i))]⟩) (fun i => i ≤ xs.length) (fun i => xs.length - i) 0 (MEnt.env (by rw [mhalf_zero]) (by simp only [subM, go_sem, ↓reduceIte, Nat.reduceEqDiff, List.take_zero, cntL]; simp)) (Nat.zero_le _) ?_
 intro i j1
 by_cases hi : i < xs.length
 ·have hb1 : bx = true := hbx (by intro e; simp at e; subst e; simp at hi)
  have hc1 := cntL_le (cnt := one) (l := xs) (i := i + 1)
  have hc2 := cntL_succ (cnt := one) hi
  have e1 := mhalf_at (mk := mkI) (cnt := one) (f := eI) (k := k) hi
  subst hb1
  rw [one_eq] at hc2
  simp +contextual -implicitDefEqProofs only [e1, hi, mhalf_len, eI, D.sub, D.isSc, D.put, D.isAg, go_sem, ↓reduceIte, Nat.reduceEqDiff, iL, lM, iN, Nat.zero_lt_one]
  rw [wrap_i64 (by omega) (by omega), wrap_i64 (by omega) (by omega)]
  have hk : k + (cntL one (xs.take i) : Int) + 1 = k + cntL one (xs.take (i + 1)) := by rw [hc2]; simp []; omega
  rw [hk]
  exact ⟨i + 1, by omega, by omega, MEnt.env ((mhalf_mset hi rfl).symm) (by simp only [subM, go_sem, ↓reduceIte, Nat.reduceEqDiff]; simp)⟩
 ·simp +contextual -implicitDefEqProofs only [hi, mhalf_len, go_sem, ↓reduceIte, Nat.reduceEqDiff, iL, lM, iN, Nat.zero_lt_one]
  have hl : xs.length ≤ i := by omega
  rw [mhalf_full hl, List.take_of_length_le hl]
  simp
section
variable {α : Type} {f : α → D} {mk : α → Int → α} {cnt : α → Nat}
theorem af_mkC {P : Program} {g h : Nat} (hr : resF P g = some (19, cMkC h, [.t 4])) (e : Enc f 1 false) (nn : Option Bool) (xs : List α) (k : Int) (hf : ∀ x ∈ xs, ∀ k : Int, 0 ≤ k → k + cnt x ≤ maxK → AFM P h (f x) k (f (mk x k)) (k + cnt x)) (h0 : 0 ≤ k) (hb : k + cntL cnt xs ≤ maxK) :
  AFM P g (.ls nn 1 (xs.map f)) k (.ls nn 1 ((mkL mk cnt xs k).map f)) (k + cntL cnt xs) := by
 unfold maxK at hb
 refine afm_ls hr (by omega) (by simp [mkL_length]) fun hmx bx hbx => ?_
 have hmx : xs.length ≤ 9223372036854775807 := by simpa [maxEl] using hmx
 simp +contextual -implicitDefEqProofs only [cMkC, go_sem]
 refine m_loop (α := Nat) (fun i => ⟨bx, (mhalf mk cnt xs k i).map f, [(0, .rt), (1, .va (.int .i64 (k + cntL cnt (xs.take i)))), (5, .va (.int .i64 i))]⟩) (fun i => i ≤ xs.length) (fun i => xs.length - i) 0 (MEnt.env (by rw [mhalf_zero]) (by simp only [subM, go_sem, ↓reduceIte, Nat.reduceEqDiff, List.take_zero, cntL]; simp)) (Nat.zero_le _) ?_
 intro i j1
 by_cases hi : i < xs.length
 ·have hb1 : bx = true := hbx (by intro e; simp at e; subst e; simp at hi)
  have hc1 := cntL_le (cnt := cnt) (l := xs) (i := i + 1)
  have hc2 := cntL_succ (cnt := cnt) hi
  have e1 := mhalf_at (mk := mk) (cnt := cnt) (f := f) (k := k) hi
  subst hb1
  simp +contextual -implicitDefEqProofs only [hi, mhalf_len, go_sem, ↓reduceIte, Nat.reduceEqDiff, iL, lM, iN, Nat.zero_lt_one]
  refine mMcl_self (e' := f (mk xs[i] (k + cntL cnt (xs.take i)))) (n' := k + cntL cnt (xs.take i) + cnt xs[i]) (by rw [e1, e.sub]; exact hf xs[i] (List.getElem_mem hi) _ (by omega) (by unfold maxK; omega)) (by rw [e1, e.sub]; exact e.isAg _) (.inl ⟨rfl, rfl⟩) ?_
  simp +contextual -implicitDefEqProofs only [D.put, go_sem, ↓reduceIte, Nat.reduceEqDiff]
  rw [wrap_i64 (by omega) (by omega)]
  have hk : k + (cntL cnt (xs.take i) : Int) + cnt xs[i] = k + cntL cnt (xs.take (i + 1)) := by rw [hc2]; omega
  rw [hk]
  exact ⟨i + 1, by omega, by omega, MEnt.env ((mhalf_mset hi rfl).symm) (by simp only [subM, go_sem, ↓reduceIte, Nat.reduceEqDiff]; simp)⟩
 ·simp +contextual -implicitDefEqProofs only [hi, mhalf_len, go_sem, ↓reduceIte, Nat.reduceEqDiff, iL, lM, iN, Nat.zero_lt_one]
  have hl : xs.length ≤ i := by omega
  rw [mhalf_full hl, List.take_of_length_le hl]
  simp
end
theorem af_hdI {P : Program} (hm : P.follows .mixedOrders = true) {g : Nat} (hr : resF P g = some (21, cHdI, [.t 4])) (nn : Option Bool) (xs : List Int) (k : Int) (h0 : 0 ≤ k) (hb : k + cntL one xs ≤ maxK) :
  AF P g [.ls nn 1 ((mkL mkI one xs k).map eI), eI k] (.own (eI (k + cntL one xs))) := by
 unfold maxK at hb
 refine af_of_res hr hm rfl fun hbd => ?_
 have hl := len_of_bd hbd
 unfold maxEl at hl
 simp only [lM, mkL_length] at hl
 simp +contextual -implicitDefEqProofs only [cHdI, eI, go_sem, ↓reduceIte, Nat.reduceAdd]
 refine vc_on (α := Nat) [1, 4, 4, 5, 6, 7, 8, 9, 10, 11, 12, 13, 14, 15, 16, 17, 18, 19] (fun i => [(1, .im none (.sc (.int .i64 (k + cntL one (xs.take i))))), (5, .im none (.sc (.int .i64 i)))]) (fun i => i ≤ xs.length) (fun i => xs.length - i) 0 (by simp only [subEnv, go_sem, ↓reduceIte, Nat.reduceEqDiff, List.take_zero, cntL]; simp) (Nat.zero_le _) ?_
 intro i j1
 by_cases hi : i < xs.length
 ·have hc1 := cntL_le (cnt := one) (l := xs) (i := i + 1)
  have hc2 := cntL_succ (cnt := one) hi
  have e1 := mkL_at (mk := mkI) (cnt := one) (f := eI) (k := k) hi
  rw [one_eq] at hc2
  simp +contextual -implicitDefEqProofs only [e1, hi, mkL_length, eI, mkI, D.size, D.sub, bne_self_eq_false, go_sem, ↓reduceIte, Nat.reduceEqDiff, Nat.reduceLeDiff, iL, lM, iN, Nat.zero_lt_one]
  rw [wrap_i64 (by omega) (by omega), wrap_i64 (by omega) (by omega)]
  have hk : k + (cntL one (xs.take i) : Int) + 1 = k + cntL one (xs.take (i + 1)) := by rw [hc2]; simp []; omega
  rw [hk]
  exact ⟨i + 1, by omega, by omega, Ent.env (by simp only [subEnv, go_sem, ↓reduceIte, Nat.reduceEqDiff]; simp)⟩
 ·simp +contextual -implicitDefEqProofs only [hi, mkL_length, go_sem, ↓reduceIte, Nat.reduceEqDiff, iL, lM]
  rw [List.take_of_length_le (by omega)]
  exact D.Le.refl _
section
variable {α : Type} {f : α → D} {mk : α → Int → α} {cnt : α → Nat}
theorem af_hdC {P : Program} (hm : P.follows .mixedOrders = true) {g h : Nat} (hr : resF P g = some (21, cHdC h, [.t 4])) (e : Enc f 1 false) (nn : Option Bool) (xs : List α) (k : Int) (hf : ∀ x ∈ xs, ∀ k : Int, 0 ≤ k → k + cnt x ≤ maxK → AF P h [f (mk x k), eI k] (.own (eI (k + cnt x)))) (h0 : 0 ≤ k) (hb : k + cntL cnt xs ≤ maxK) :
  AF P g [.ls nn 1 ((mkL mk cnt xs k).map f), eI k] (.own (eI (k + cntL cnt xs))) := by
 unfold maxK at hb
 refine af_of_res hr hm rfl fun hbd => ?_
 have hl := len_of_bd hbd
 unfold maxEl at hl
 simp only [lM, mkL_length] at hl
 simp +contextual -implicitDefEqProofs only [cHdC, eI, go_sem, ↓reduceIte, Nat.reduceAdd]
 refine vc_on (α := Nat) [1, 4, 4, 5, 6, 7, 8, 9, 10, 11, 12, 13, 14, 15, 16, 17, 18, 19] (fun i => [(1, .im none (.sc (.int .i64 (k + cntL cnt (xs.take i))))), (5, .im none (.sc (.int .i64 i)))]) (fun i => i ≤ xs.length) (fun i => xs.length - i) 0 (by simp only [subEnv, go_sem, ↓reduceIte, Nat.reduceEqDiff, List.take_zero, cntL]; simp) (Nat.zero_le _) ?_
 intro i j1
 by_cases hi : i < xs.length
 ·have hc1 := cntL_le (cnt := cnt) (l := xs) (i := i + 1)
  have hc2 := cntL_succ (cnt := cnt) hi
  have e1 := mkL_at (mk := mk) (cnt := cnt) (f := f) (k := k) hi
  simp +contextual -implicitDefEqProofs only [e1, hi, mkL_length, e.sub, e.size, e.isAg, go_sem, ↓reduceIte, Nat.reduceEqDiff, Nat.reduceLeDiff, iL, lM, iN, Nat.zero_lt_one]
  refine callQ_self ?_ (hf xs[i] (List.getElem_mem hi) (k + cntL cnt (xs.take i)) (by omega) (by unfold maxK; omega)) ?_
  ·exact rfl
  simp +contextual -implicitDefEqProofs only [go_sem, eI, ↓reduceIte, Nat.reduceEqDiff]
  have hk : k + (cntL cnt (xs.take i) : Int) + cnt xs[i] = k + cntL cnt (xs.take (i + 1)) := by rw [hc2]; omega
  rw [hk]
  refine ⟨fun h => by omega, fun _ => ?_⟩
  rw [wrap_i64 (by omega) (by omega)]
  exact ⟨i + 1, by omega, by omega, Ent.env (by simp only [subEnv, go_sem, ↓reduceIte, Nat.reduceEqDiff]; simp)⟩
 ·simp +contextual -implicitDefEqProofs only [hi, mkL_length, go_sem, ↓reduceIte, Nat.reduceEqDiff, iL, lM]
  rw [List.take_of_length_le (by omega)]
  exact D.Le.refl _
end
end Go.Ax
namespace Go.Ax
set_option maxRecDepth 20000
set_option maxHeartbeats 4000000
mutual
def cntE : Ex → Nat
 | .mk _ _ _ ks => 2 + cntEs ks
def cntEs : List Ex → Nat
 | [] => 0
 | e :: es => cntE e + cntEs es
end
theorem cntEs_eq : ∀ ks : List Ex, cntEs ks = cntL cntE ks
 | [] => rfl
 | e :: es => by simp only [cntEs, cntL, cntEs_eq es]
mutual
def mkE : Ex → Int → Ex
 | .mk _ _ nn ks => fun m => .mk m (m + 1) nn (mkEs ks (m + 2))
def mkEs : List Ex → Int → List Ex
 | [] => fun _ => []
 | e :: es => fun m => mkE e m :: mkEs es (m + cntE e)
end
theorem mkEs_eq : ∀ (ks : List Ex) (m : Int), mkEs ks m = mkL mkE cntE ks m
 | [], _ => rfl
 | e :: es, m => by simp only [mkEs, mkL, mkEs_eq es]
theorem cntE_mk {k n : Int} {nn : Option Bool} {ks : List Ex} : cntE (.mk k n nn ks) = 2 + cntL cntE ks := by rw [cntE, cntEs_eq]
theorem mkE_mk {k n : Int} {nn : Option Bool} {ks : List Ex} {m : Int} : mkE (.mk k n nn ks) m = .mk m (m + 1) nn (mkL mkE cntE ks (m + 2)) := by rw [mkE]; simp only [mkEs_eq]
theorem Ex.ex (e : Ex) : ∃ k n nn ks, e = .mk k n nn ks := by cases e; exact ⟨_, _, _, _, rfl⟩

def k_markExprS (g : Nat) : RC := (.seq (.r [.v 4 (.ci 0)]) (.seq (.seq (.r [.v 5 (.ci 0)]) (.blk 0 (.loop (.seq (.seq (.r [.m 6 5, .m 7 0, .o (.len 8 (.t 7)), .o (.bin 9 .lss (.t 6) (.t 8))]) (.cond (.t 9) .skip (.exit 0))) (.seq (.blk 1 (.seq (.r [.m 12 0, .m 13 5, .m 14 1, .o (.ia 15 3 (.t 12) (.t 13)), .f 16 0 15, .s 1 16 14]) (.seq (.r [.m 17 1, .o (.bin 18 .add (.t 17) (.ci 1)), .m 1 18]) (.seq (.r [.m 19 0, .m 20 5, .m 21 1, .o (.ia 22 3 (.t 19) (.t 20)), .f 23 1 22, .s 1 23 21]) (.seq (.r [.m 24 1, .o (.bin 25 .add (.t 24) (.ci 1)), .m 1 25]) (.r [.m 26 0, .m 27 5, .o (.ia 28 3 (.t 26) (.t 27)), .f 29 2 28, .l 30 1 29, .m 31 1, .o (.mcl 32 g (.t 30) (.t 31)), .m 1 32])))))) (.r [.m 10 5, .o (.bin 11 .add (.t 10) (.ci 1)), .m 5 11])))))) (.seq (.r [.m 33 1, .m 4 33]) .ret)))
def K_markExprS (P : Program) (fno : Nat) : Prop := ∀ (nn : Option Bool) (xs : List Ex) (k : Int), 0 ≤ k → k + cntL cntE xs ≤ maxK → AFM P fno (.ls nn 3 (xs.map eE)) k (.ls nn 3 ((mkL mkE cntE xs k).map eE)) (k + cntL cntE xs)
theorem a_markExprS {P : Program} (hm : P.follows .mixedOrders = true) {g : Nat} (hr : resF P g = some (34, k_markExprS g, [.t 4])) : K_markExprS P g := by
 intro nn xs k h0 hb
 refine Ex.ind (p := fun e => ∀ (nn : Option Bool) (k : Int), 0 ≤ k → k + cntL cntE e.ks ≤ maxK → AFM P g (.ls nn 3 (e.ks.map eE)) k (.ls nn 3 ((mkL mkE cntE e.ks k).map eE)) (k + cntL cntE e.ks)) (fun _ _ _ xs ih nn k h0 hb => ?_) (Ex.mk 0 0 none xs) nn k h0 hb
 simp only [Ex.ks_mk] at hb ⊢
 unfold maxK at hb
 refine afm_ls hr (by omega) (by simp [mkL_length]) fun hmx bx hbx => ?_
 have hmx : xs.length ≤ 9223372036854775807 := by simpa [maxEl] using hmx
 simp +contextual -implicitDefEqProofs only [k_markExprS, go_sem]
 refine m_loop (α := Nat) (fun i => ⟨bx, (mhalf mkE cntE xs k i).map eE, [(0, .rt), (1, .va (.int .i64 (k + cntL cntE (xs.take i)))), (5, .va (.int .i64 i))]⟩) (fun i => i ≤ xs.length) (fun i => xs.length - i) 0 (MEnt.env (by rw [mhalf_zero]) (by simp only [subM, go_sem, ↓reduceIte, Nat.reduceEqDiff, List.take_zero, cntL]; simp)) (Nat.zero_le _) ?_
 intro i j1
 by_cases hi : i < xs.length
 ·have hb1 : bx = true := hbx (by intro e; simp at e; subst e; simp at hi)
  have hc1 := cntL_le (cnt := cntE) (l := xs) (i := i + 1)
  have hc2 := cntL_succ (cnt := cntE) hi
  have e1 := mhalf_at (mk := mkE) (cnt := cntE) (f := eE) (k := k) hi
  have ihx := ih xs[i] (List.getElem_mem hi)
  have hset := mhalf_mset (mk := mkE) (cnt := cntE) (f := eE) (k := k) hi (d := eE (mkE xs[i] (k + cntL cntE (xs.take i)))) rfl
  obtain ⟨ek, en, enn, eks, hx⟩ := Ex.ex xs[i]
  rw [hx] at e1 hc2 ihx hset
  rw [eE_mk] at e1
  rw [mkE_mk, eE_mk] at hset
  rw [cntE_mk] at hc2
  simp only [Ex.ks_mk] at ihx
  have hat : ∀ d, D.at (((mhalf mkE cntE xs k i).map eE).set i d) i = d := fun d => at_set (by simp [mhalf_len]; exact hi)
  subst hb1
  have hw1 : IntKind.i64.wrap (k + cntL cntE (xs.take i) + 1) = k + cntL cntE (xs.take i) + 1 := wrap_i64 (by omega) (by omega)
  have hw2 : IntKind.i64.wrap (k + cntL cntE (xs.take i) + 1 + 1) = k + cntL cntE (xs.take i) + 1 + 1 := wrap_i64 (by omega) (by omega)
  simp +contextual -implicitDefEqProofs only [e1, hi, hw1, hw2, hat, mhalf_len, List.length_set, List.set_set, D.sub, D.isSc, D.put, D.isAg, D.cells, go_sem, ↓reduceIte, Nat.reduceEqDiff, Nat.reduceAdd, Nat.reduceLT, iL, lM, iN, Nat.zero_lt_one]
  refine mMcl_self (e' := .ls enn 3 ((mkL mkE cntE eks (k + cntL cntE (xs.take i) + 1 + 1)).map eE)) (n' := k + cntL cntE (xs.take i) + 1 + 1 + cntL cntE eks) ?_ ?_ ?_ ?_
  ·simp only [hat, D.sub, bF, if_false, List.getD_cons_succ, List.getD_cons_zero]
   exact ihx enn _ (by omega) (by unfold maxK; omega)
  ·simp only [hat, D.sub, bF, if_false, List.getD_cons_succ, List.getD_cons_zero, D.isAg]
  ·right; simp only [hat, D.isAg]
  simp +contextual -implicitDefEqProofs only [hat, List.set_set, D.put, D.cells, go_sem, ↓reduceIte, Nat.reduceEqDiff, Nat.reduceAdd]
  rw [wrap_i64 (by omega) (by omega)]
  have hk : k + (cntL cntE (xs.take i) : Int) + 1 + 1 + cntL cntE eks = k + cntL cntE (xs.take (i + 1)) := by rw [hc2]; push_cast; omega
  have hk2 : k + (cntL cntE (xs.take i) : Int) + 1 + 1 = k + cntL cntE (xs.take i) + 2 := by omega
  rw [hk, hk2]
  exact ⟨i + 1, by omega, by omega, MEnt.env (by rw [← hset]) (by simp only [subM, go_sem, ↓reduceIte, Nat.reduceEqDiff]; simp)⟩
 ·simp +contextual -implicitDefEqProofs only [hi, mhalf_len, go_sem, ↓reduceIte, Nat.reduceEqDiff, Nat.reduceLT, iL, lM, iN, Nat.zero_lt_one]
  have hl : xs.length ≤ i := by omega
  rw [mhalf_full hl, List.take_of_length_le hl]
  simp

def mkE0 : Ex → Int → Ex
 | .mk k n nn ks => fun m => .mk k n nn (mkL mkE cntE ks m)
def cntE0 : Ex → Nat
 | .mk _ _ _ ks => cntL cntE ks
theorem mkE0_mk {k n : Int} {nn : Option Bool} {ks : List Ex} {m : Int} : mkE0 (.mk k n nn ks) m = .mk k n nn (mkL mkE cntE ks m) := by rw [mkE0]
theorem cntE0_mk {k n : Int} {nn : Option Bool} {ks : List Ex} : cntE0 (.mk k n nn ks) = cntL cntE ks := by rw [cntE0]

def k_markExpr (f1 : Nat) : RC := (.seq (.r [.b 2 3 0, .v 4 (.ci 0)]) (.seq (.r [.f 5 2 2, .l 6 1 5, .m 7 1, .o (.mcl 8 f1 (.t 6) (.t 7)), .m 1 8]) (.seq (.r [.m 9 1, .m 4 9]) .ret)))
def K_markExpr (P : Program) (fno : Nat) : Prop := ∀ (x : Ex) (k : Int), 0 ≤ k → k + cntE0 x ≤ maxK → AFM P fno (eE x) k (eE (mkE0 x k)) (k + cntE0 x)
theorem a_markExpr {P : Program} (hm : P.follows .mixedOrders = true) {g f1 : Nat} (hr : resF P g = some (10, k_markExpr f1, [.t 4])) (hc1 : K_markExprS P f1) : K_markExpr P g := by
 intro x k h0 hb
 obtain ⟨ek, en, enn, eks, rfl⟩ := Ex.ex x
 rw [mkE0_mk, cntE0_mk, eE_mk, eE_mk]
 rw [cntE0_mk] at hb
 refine afm_ag hr (by omega) rfl fun hbd => ?_
 simp +contextual -implicitDefEqProofs only [k_markExpr, D.size, D.sizeL, go_sem, ↓reduceIte, Nat.reduceEqDiff, Nat.reduceAdd, Nat.reduceLT, Nat.zero_lt_one]
 refine mMcl_self (e' := .ls enn 3 ((mkL mkE cntE eks k).map eE)) (n' := k + cntL cntE eks) ?_ rfl (.inr rfl) ?_
 ·exact hc1 enn eks k h0 hb
 simp +contextual -implicitDefEqProofs only [D.put, D.cells, D.at, go_sem, ↓reduceIte, Nat.reduceEqDiff, Nat.reduceAdd]


def delsS : List Nat → St → St
 | [], st => st
 | k :: ks, st => delsS ks (st.del k)
theorem Ent.dels : ∀ (ks : List Nat) (st : St), Ent st (delsS ks st)
 | [], st => Ent.refl st
 | k :: ks, st => Ent.trans (Ent.del st k) (Ent.dels ks (st.del k))
@[go_sem] theorem delsS_nil {st : St} : delsS [] st = st := rfl
@[go_sem] theorem delsS_cons {k : Nat} {ks : List Nat} {st : St} : delsS (k :: ks) st = delsS ks (st.del k) := rfl

theorem lk_map {v : AV} {e : List (Nat × AV)} {t : Nat} : ∀ {ts : List Nat}, lk (ts.map (fun t => (t, v)) ++ e) t = if t ∈ ts then v else lk e t
 | [] => by simp
 | a :: ts => by
  simp only [lC, List.cons_append, lk, lk_map (ts := ts), List.mem_cons]
  by_cases h : a = t
  ·simp [h]
  ·simp [h, Ne.symm h]

theorem Ent.ren (st : St) (k k' : Nat) (ts : List Nat) (d : D) (hu : lu st.us k = some (.own d)) (hk : noU k' (st.del k).us = true) (ht : ∀ t ∈ ts, lk st.env t = .tr k) :
  Ent st ⟨st.n, ts.map (fun t => (t, .tr k')) ++ (st.del k).env, (k', .own d) :: (st.del k).us⟩ := by
 intro n0 S0 M0 w0 a w hs
 obtain ⟨g, hU0, hv⟩ := hs.gh
 have hm := mem_of_lu hu
 obtain ⟨hU, hK⟩ := hU0.del k
 have hown := hU0.each _ hm
 simp only [UOk] at hown
 obtain ⟨h1, h2, h3⟩ := hown
 have hφ : ∀ b ∈ g.φ k, b ∈ fp g st.us := fun b hb => mem_fp.2 ⟨_, hm, hb⟩
 have hno : ∀ b ∈ g.φ k, b ∉ fp (g.drop k) (killU k (AV.refs k) st.us) := by
  intro b hb hb2
  obtain ⟨x, hx, hbx⟩ := mem_fp.1 hb2
  obtain ⟨hne, u, hx1, _⟩ := of_mem_killU hx
  have hbx' : b ∈ g.φ x.1 := by simpa [Gh.drop, hne] using hbx
  exact hne (fp_apart hU0.keys hU0.nodup hx1 hm hbx' hb)
 obtain ⟨hA, hV⟩ := hU.addG (u := .own d) (β := none) (cap := 0) (F := g.φ k) (v := g.root k) (n := k') (noU_spec hk) (fun b hb => h2.lt b hb) (phi_nodup hU0 hm) (fun b hb hlt => hU0.low b (hφ b hb) hlt) hno
  (fun b hb hS => (hU0.sh b hS).2.2 (hφ b hb)) (fun b hb => hU0.fz b (hφ b hb)) (by simp only [UOk, Gh.add, if_true]; exact ⟨trivial, h2, h3⟩)
 refine ⟨hs.ms, hs.dfr, hs.tm, hs.base, hs.os, hs.tape, hs.output, hs.size, hs.old, _, hA, fun t => ?_⟩
 simp only [lk_map]
 split
 ·next hmem =>
  have := hv t
  rw [ht t hmem] at this
  simp only [VRep] at this ⊢
  exact ⟨⟨d, by simp⟩, by simp [Gh.add, this.2]⟩
 ·exact hV _ _ (killE_rep (fun av v hf hr => VRep.keepR hK hf hr) (hv t))

theorem perm_of_sub {α : Type} : ∀ {l l' : List α}, l'.Nodup → (∀ x ∈ l', x ∈ l) → l.length = l'.length → l'.Perm l
 | [], l', _, _, hl => by
  have : l' = [] := List.length_eq_zero_iff.1 (by simpa using hl.symm)
  subst this; exact List.Perm.refl _
 | a :: l, l', hn, hs, hl => by
  by_cases ha : a ∈ l'
  ·obtain ⟨s, t, rfl⟩ := List.append_of_mem ha
   have hp : (s ++ a :: t).Perm (a :: (s ++ t)) := List.perm_middle
   have hn' := hp.nodup_iff.1 hn
   rw [List.nodup_cons] at hn'
   refine hp.trans (List.Perm.cons a (perm_of_sub hn'.2 ?_ (by simp at hl ⊢; omega)))
   intro x hx
   have := hs x (hp.mem_iff.2 (by simp [hx]))
   rcases List.mem_cons.1 this with rfl | h
   ·exact absurd hx hn'.1
   ·exact h
  ·exfalso
   have key : ∀ {m : List α} {l : List α}, m.Nodup → (∀ x ∈ m, x ∈ l) → m.length ≤ l.length := by
    intro m
    induction m with
    | nil => intro l _ _; simp
    | cons b m ih =>
     intro l hn hs
     rw [List.nodup_cons] at hn
     obtain ⟨s, t, rfl⟩ := List.append_of_mem (hs b (by simp))
     have := ih (l := s ++ t) hn.2 (fun x hx => by
      have h1 := hs x (by simp [hx])
      simp only [List.mem_append, List.mem_cons] at h1 ⊢
      rcases h1 with h1 | rfl | h1
      ·exact .inl h1
      ·exact absurd hx hn.1
      ·exact .inr h1)
     simp at this ⊢; omega
   have h2 : ∀ x ∈ l', x ∈ l := fun x hx => by
    rcases List.mem_cons.1 (hs x hx) with rfl | h
    ·exact absurd hx ha
    ·exact h
   have := key hn h2
   simp at hl; omega

def keysOk : List (Nat × U) → Bool
 | [] => true
 | (k, _) :: r => noU k r && keysOk r
theorem keysOk_nodup : ∀ {us : List (Nat × U)}, keysOk us = true → (us.map (·.1)).Nodup
 | [], _ => by simp
 | (k, u) :: r, h => by
  simp only [keysOk, bA] at h
  simp only [lC, List.nodup_cons]
  exact ⟨noU_spec h.1, keysOk_nodup h.2⟩

theorem Ent.to {n : Nat} {e e1 e' : List (Nat × AV)} {us us1 us' : List (Nat × U)} (ks : List Nat) (h1 : delsS ks ⟨n, e, us⟩ = ⟨n, e1, us1⟩) (hk : keysOk us' = true) (hm : ∀ x ∈ us', x ∈ us1) (hl : us1.length = us'.length) (he : subEnv e1 e') : Ent ⟨n, e, us⟩ ⟨n, e', us'⟩ := by
 refine Ent.trans (Ent.dels ks _) ?_
 rw [h1]
 refine Ent.trans (Ent.perm (us' := us') (perm_of_sub ?_ hm hl)) (Ent.env he)
 have := keysOk_nodup hk
 exact List.Pairwise.of_map (·.1) (fun a b h e => h (e ▸ rfl)) this

theorem vc_onU {P : Program} {c : RC} {K : Exit → St → Prop} {α : Type} {n : Nat} {env : List (Nat × AV)} {us : List (Nat × U)} (ks : List Nat) (upd : α → List (Nat × AV)) (U : α → List (Nat × U)) (J : α → Prop) (μ : α → Nat) (x0 : α)
  (h0 : Ent ⟨n, env, us⟩ ⟨n, upd x0 ++ keep ks env, U x0⟩) (hJ : J x0)
  (h : ∀ x, J x → vcR P c ⟨n, upd x ++ keep ks env, U x⟩ (kseq (fun s => ∃ y, J y ∧ μ y < μ x ∧ Ent s ⟨n, upd y ++ keep ks env, U y⟩) K)) : vcR P (.loop c) ⟨n, env, us⟩ K :=
 vc_loop (fun x => ⟨n, upd x ++ keep ks env, U x⟩) J μ x0 h0 hJ h

theorem AF.sh {P : Program} {f : Nat} {ds : List D} {d : D} (h : AF P f ds (.own d)) : AF P f ds (.sh d) := by
 refine ⟨h.1, fun w vs old ha => (h.2 w vs old ha).mono ?_⟩
 rintro e w' ⟨v, F, G, rfl, hB, hR, hn, hF, hG⟩
 simp only [RetRep] at hR
 obtain ⟨rfl, hR, hf⟩ := hR
 refine ⟨v, [], F, rfl, hB, by simp only [RetRep]; exact ⟨trivial, hR, hf⟩, List.nodup_nil, by simp, fun b hb => .inl ⟨(hF b hb).1, hR.lt b hb⟩⟩

def nnL {α : Type} (l : List α) : Option Bool := match l with | [] => some true | _ => some false
theorem nnL_pos {α : Type} {l : List α} (h : 0 < l.length) : nnL l = some false := by cases l with | nil => simp at h | cons => rfl
theorem nnL_take {α : Type} {l : List α} {i : Nat} (h : i < l.length) : nnL (l.take (i + 1)) = some false := nnL_pos (by simp; omega)
theorem map_take {α β : Type} {f : α → β} {l : List α} {i : Nat} (h : i < l.length) : (l.take (i + 1)).map f = (l.take i).map f ++ [f l[i]] := by rw [List.take_succ_eq_append_getElem h, List.map_append]; rfl

mutual
def cpE : Ex → Ex
 | .mk k n _ ks => .mk k n (nnL ks) (cpEs ks)
def cpEs : List Ex → List Ex
 | [] => []
 | e :: es => cpE e :: cpEs es
end
theorem cpEs_eq : ∀ ks : List Ex, cpEs ks = ks.map cpE
 | [] => rfl
 | e :: es => by simp only [cpEs, lC, cpEs_eq es]
theorem cpE_mk {k n : Int} {nn : Option Bool} {ks : List Ex} : cpE (.mk k n nn ks) = .mk k n (nnL ks) (ks.map cpE) := by rw [cpE]; simp only [cpEs_eq]

def k_l01Own (g : Nat) : RC := (.seq (.r [.o (.zer 2 3 .ze)]) (.seq (.reg true [.m 5 0, .n 6 5, .f 7 0 6, .l 8 1 7, .m 9 0, .n 10 9, .f 11 1 10, .l 12 1 11, .o (.bld 13 .ze [(0, 1, (.t 8)), (1, 1, (.t 12))]), .o (.zer 3 3 .ze), .s 3 3 13]) (.seq (.seq (.r [.v 4 (.ci 0)]) (.blk 0 (.loop (.seq (.seq (.r [.m 14 4, .m 15 0, .n 16 15, .f 17 2 16, .l 18 1 17, .o (.len 19 (.t 18)), .o (.bin 20 .lss (.t 14) (.t 19))]) (.cond (.t 20) .skip (.exit 0))) (.seq (.blk 1 (.reg true [.f 23 2 3, .l 24 1 23, .m 25 0, .n 26 25, .f 27 2 26, .l 28 1 27, .m 29 4, .o (.ia 30 3 (.t 28) (.t 29)), .c 31 g [.t 30], .o (.bs 32 3 .ze 1 [(0, (.t 31))]), .o (.app 33 3 40 (.t 24) (.t 32)), .f 34 2 3, .s 1 34 33])) (.r [.m 21 4, .o (.bin 22 .add (.t 21) (.ci 1)), .m 4 22])))))) (.seq (.r [.L 35 3 3, .s 3 2 35]) .ret))))
def K_l01Own (P : Program) (fno : Nat) : Prop := ∀ (e : Ex) (hf0 : fitE e), AF P fno [.pt (eE e) 0] (.own (eE (cpE e)))
theorem a_l01Own {P : Program} (hm : P.follows .mixedOrders = true) {g : Nat} (hr : resF P g = some (36, k_l01Own g, [.c 2 3 true])) : K_l01Own P g := by
 intro e hf0
 refine Ex.ind (p := fun e => fitE e → AF P g [.pt (eE e) 0] (.own (eE (cpE e)))) (fun k n nn ks ih hf => ?_) e hf0
 rw [fitE_mk] at hf
 rw [eE_mk, cpE_mk, eE_mk]
 refine af_of_res hr hm rfl fun hb => ?_
 have hl : ks.length ≤ 9223372036854775807 := by
  have := hb.1
  simp only [D.bd, D.bdL, lM, maxEl] at this
  exact this.2.2.1.1
 simp +contextual -implicitDefEqProofs only [k_l01Own, D.put, D.cells, D.size, D.sizeL, D.at, D.sub, D.isAg, modeOf, noPtrs, go_sem, ↓reduceIte, Nat.reduceEqDiff, Nat.reduceAdd, Nat.reduceLeDiff, Nat.reduceBEq, Nat.reduceBneDiff, Nat.reduceLT, Nat.reduceSub]
 refine vc_onU (α := Nat) [4, 14, 15, 16, 17, 18, 19, 20, 21, 22, 23, 24, 25, 26, 27, 28, 29, 30, 31, 32, 33, 34] (fun i => [(4, .im none (.sc (.int .i64 i)))]) (fun i => [(3, .ar true (some false) 3 [.ag [.sc (.int .i64 k), .sc (.int .i64 n), .ls (nnL (ks.take i)) 3 (((ks.take i).map cpE).map eE)]]), (2, .ar true (some false) 3 [.ag [.sc (.int .i64 0), .sc (.int .i64 0), .ls (some true) 3 []]])]) (fun i => i ≤ ks.length) (fun i => ks.length - i) 0 (Ent.to [] (by simp only [go_sem]; rfl) rfl (by simp [nnL]) (by rfl) (by simp only [subEnv, go_sem, ↓reduceIte, Nat.reduceEqDiff, keep, memN]; simp)) (Nat.zero_le _) ?_
 intro i hi0
 by_cases hi : i < ks.length
 ·have e1 := at_map (f := eE) hi
  have hlen : ((ks.take i).map (fun x => eE (cpE x))).length = i := by simp; omega
  simp +contextual -implicitDefEqProofs only [hi, e1, go_sem, ↓reduceIte, Nat.reduceEqDiff, Nat.reduceAdd, Nat.reduceLeDiff, Nat.reduceLT, iL, lM, iN]
  refine callQ_self ?_ (ih ks[i] (List.getElem_mem hi) (hf.2 _ (List.getElem_mem hi))) ?_
  ·exact rfl
  simp +contextual -implicitDefEqProofs only [eE_size, go_sem, ↓reduceIte, Nat.reduceEqDiff, Nat.reduceAdd, Nat.reduceLeDiff, Nat.reduceMul, Nat.reduceBEq, Nat.reduceBneDiff, Nat.reduceLT, lM]
  have hl2 : (ks.take i).length = i := by simp; omega
  refine ⟨rfl, ⟨by omega, by unfold maxEl; omega, by simp [eE_size]⟩, i + 1, by omega, by omega, ?_⟩
  rw [wrap_i64 (by omega) (by omega)]
  exact Ent.to [] (by simp only [go_sem]; rfl) rfl (by simp [nnL_take hi, map_take hi, List.map_append]) (by rfl) (by simp only [subEnv, go_sem, ↓reduceIte, Nat.reduceEqDiff]; simp)
 ·simp +contextual -implicitDefEqProofs only [hi, go_sem, ↓reduceIte, Nat.reduceEqDiff, Nat.reduceAdd, Nat.reduceLeDiff, Nat.reduceBEq, Nat.reduceLT, iL, lM]
  rw [List.take_of_length_le (by omega)]
  exact D.Le.refl _

structure HFam (P : Program) {α : Type} (f : α → D) (s : α → Int → Int) (t : α → α) (mF hF : Nat) where
 mrk : α → Int → α
 cnt : α → Nat
 cnt_s : ∀ x l, 0 ≤ l → l ≤ 1048576 → 0 ≤ s x l → (cnt x : Int) ≤ 8 * (l - s x l)
 cnt_t : ∀ x, cnt (t x) = cnt x
 afM : ∀ x k, 0 ≤ k → k + cnt x ≤ maxK → AFM P mF (f x) k (f (mrk x k)) (k + cnt x)
 afH : ∀ x k, 0 ≤ k → k + cnt x ≤ maxK → AF P hF [f (mrk x k), eI k] (.own (eI (k + cnt x)))

theorem cntL_one {α : Type} (xs : List α) : cntL (one (α := α)) xs = xs.length := by
 induction xs with
 | nil => rfl
 | cons x xs ih => simp only [cntL, ih, one, lK]; omega
section
variable {P : Program} (hm : P.follows .mixedOrders = true)

end

section
variable {P : Program} (hm : P.follows .mixedOrders = true)
def hrI {mF hF : Nat} (rm : resF P mF = some (19, cMkI, [.t 4])) (rh : resF P hF = some (21, cHdI, [.t 4])) : HFam P (eS 1 eI) (fun _ _ => -1) id mF hF where
 mrk x k := (x.1, mkL mkI one x.2 k)
 cnt x := x.2.length
 cnt_s _ _ _ _ h := by omega
 cnt_t _ := rfl
 afM x k h0 h1 := by have := af_mkI rm x.1 x.2 k h0 (by rw [cntL_one]; exact h1); rw [cntL_one] at this; exact this
 afH x k h0 h1 := by have := af_hdI hm rh x.1 x.2 k h0 (by rw [cntL_one]; exact h1); rw [cntL_one] at this; exact this
def hrC {α : Type} {f : α → D} {s : α → Int → Int} {t : α → α} {mF mF' hF hF' : Nat} (e : Enc f 1 false) (k : HFam P f s t mF hF) (rm : resF P mF' = some (19, cMkC mF, [.t 4])) (rh : resF P hF' = some (21, cHdC hF, [.t 4])) : HFam P (eS 1 f) (fun _ _ => -1) id mF' hF' where
 mrk x i := (x.1, mkL k.mrk k.cnt x.2 i)
 cnt x := cntL k.cnt x.2
 cnt_s _ _ _ _ h := by omega
 cnt_t _ := rfl
 afM x i h0 h1 := af_mkC rm e x.1 x.2 i (fun y _ => k.afM y) h0 h1
 afH x i h0 h1 := af_hdC hm rh e x.1 x.2 i (fun y _ => k.afH y) h0 h1
end
theorem cntL_bd {α : Type} {cnt : α → Nat} {c : Nat} : ∀ {l : List α}, (∀ x ∈ l, cnt x ≤ c) → cntL cnt l ≤ l.length * c
 | [], _ => by simp [cntL]
 | x :: r, h => by
  have h1 := h x (by simp)
  have h2 := cntL_bd (l := r) fun y hy => h y (by simp [hy])
  simp only [cntL, lK, Nat.succ_mul]
  omega
end Go.Ax
namespace Go.Ax

theorem cntL_congr {α β : Type} {f : α → Nat} {g : β → Nat} {h : α → β} : ∀ {l : List α}, (∀ x ∈ l, g (h x) = f x) → cntL g (l.map h) = cntL f l
 | [], _ => rfl
 | x :: l, hx => by simp only [lC, cntL, hx x (by simp), cntL_congr (l := l) fun y hy => hx y (by simp [hy])]
theorem cntE_eq (e : Ex) : cntE e = 2 + cntE0 e := by obtain ⟨k, n, nn, ks, rfl⟩ := Ex.ex e; rw [cntE_mk, cntE0_mk]
theorem cntE_tE : ∀ e : Ex, cntE (tE e) = cntE e :=
 Ex.ind fun k n nn ks ih => by rw [tE_mk, cntE_mk, cntE_mk, cntL_congr ih]
theorem szE_cnt : ∀ (e : Ex) (l : Int), 0 ≤ l → l ≤ 1048576 → 0 ≤ szE e l → (cntE0 e : Int) = 2 * (l - szE e l) :=
 Ex.ind fun k n nn ks ih l h1 h2 h => by
  have key : ∀ (ks : List Ex), (∀ e ∈ ks, ∀ l : Int, 0 ≤ l → l ≤ 1048576 → 0 ≤ szE e l → (cntE0 e : Int) = 2 * (l - szE e l)) → ∀ m : Int, 0 ≤ m → m ≤ 1048576 → 0 ≤ szL szE ks m → (cntL cntE ks : Int) = 2 * (m - szL szE ks m) + 2 * ks.length := by
   intro ks
   induction ks with
   | nil => intro _ m _ _ _; simp [cntL, szL]
   | cons x ks ihk =>
    intro hx m m1 m2 m3
    have hm : ¬ m < 0 := by omega
    simp only [szL, if_neg hm] at m3 ⊢
    have hin := szE_in x m m1 m2
    have h0 : 0 ≤ szE x m := by
     refine Classical.byContradiction fun hn => ?_
     rw [szL_neg (by omega)] at m3
     omega
    have e1 := hx x (by simp) m m1 m2 h0
    have e2 := ihk (fun e he => hx e (by simp [he])) (szE x m) h0 (by omega) m3
    simp only [cntL, cntE_eq, lK]
    push_cast
    omega
  rw [szE_mk] at h ⊢
  obtain ⟨p1, p2⟩ := nx_fit h
  simp only [szS] at h p1 ⊢
  have hc : 0 ≤ cut (l - ks.length) := by
   refine Classical.byContradiction fun hn => ?_
   rw [szL_neg (by omega)] at p1
   omega
  obtain ⟨c1, c2⟩ := cut_nonneg hc
  have := key ks ih (cut (l - ks.length)) hc (by omega) p1
  rw [nx_pos (by omega), cntE0_mk, this]
  omega

theorem cntE0_tE (e : Ex) : cntE0 (tE e) = cntE0 e := by
 have := cntE_tE e
 rw [cntE_eq, cntE_eq] at this
 omega

set_option maxRecDepth 20000
set_option maxHeartbeats 4000000

def K_l02Pair (P : Program) (f : Nat) : Prop := AFP P f
def k_l06Not (f1 : Nat) : RC := (.seq (.r [.b 1 3 0, .o (.zer 2 3 .ze)]) (.seq (.r [.c 3 f1 [.t 1], .o (.bs 4 3 .ze 1 [(0, (.t 3))]), .o (.bld 5 .ze [(0, 1, (.ci 5)), (2, 1, (.t 4))]), .s 3 2 5]) .ret))
def K_l06Not (P : Program) (fno : Nat) : Prop := ∀ (c : Ex) (hf : fitE c), AF P fno [eE c] (.own (eE (.mk 5 0 (some false) [cpE c])))
theorem a_l06Not {P : Program} (hm : P.follows .mixedOrders = true) {g f1 : Nat} (hr : resF P g = some (6, k_l06Not f1, [.c 2 3 true])) (hc1 : K_l01Own P f1) : K_l06Not P g := by
 intro c hf
 refine af_of_res hr hm rfl fun hb => ?_
 simp +contextual -implicitDefEqProofs only [k_l06Not, eE_size, D.size, D.sizeL, bE, bne, bN, bU, go_sem, ↓reduceIte, Nat.reduceEqDiff, Nat.reduceAdd, Nat.reduceBEq, Nat.reduceLT]
 refine callQ_self (ds := [.pt (eE c) 0]) (by rfl) (hc1 c hf) ?_
 simp +contextual -implicitDefEqProofs only [eE_mk, eE_size, lC, lN, D.put, D.cells, D.size, D.sizeL, D.isAg, modeOf, noPtrs, D.sub, bE, bne, bN, bG, bU, bJ, Bool.true_or, Bool.or_true, Bool.or_false, go_sem, ↓reduceIte, Nat.reduceEqDiff, Nat.reduceAdd, Nat.reduceLeDiff, Nat.reduceMul, Nat.reduceBEq, Nat.reduceLT, Nat.reduceSub]
 exact ⟨by decide, by simp [eE_size]⟩
theorem atA0 {a : D} {l : List D} : D.at (a :: l) 0 = a := rfl
theorem at1 {a b : D} {l : List D} : D.at (a :: b :: l) 1 = b := rfl

end Go.Ax
