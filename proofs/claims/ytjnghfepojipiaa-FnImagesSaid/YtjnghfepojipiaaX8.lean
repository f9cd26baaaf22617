/- Contracts of functions of the seat, proved over the engine. No condition. -/
import Derived.Test.YtjnghfepojipiaaAxXP
set_option linter.unusedSimpArgs false
set_option linter.unusedVariables false
set_option linter.unnecessarySimpa false
namespace Go.Ax
set_option linter.unusedSimpArgs false
set_option maxRecDepth 20000
set_option maxHeartbeats 4000000
theorem Ent.delEnv {n : Nat} {e e' : List (Nat × AV)} {us us' : List (Nat × U)} (k : Nat) (hu : killU k (AV.refs k) us = us') (h : subEnv (killE (AV.refs k) e) e') : Ent ⟨n, e, us⟩ ⟨n, e', us'⟩ :=
 Ent.trans (Ent.del ⟨n, e, us⟩ k) (Ent.env_us hu h)
def kidsN (k : Int) : Int := if k = 1 then 0 else if k = 2 then 0 else if k = 3 then 0 else if k = 4 then 0 else if k = 5 then 1 else if k = 8 then 1 else if k = 6 then 2 else if k = 7 then 2 else -1
def isCondK (k : Int) : Bool := (k == 1) || ((k == 2) || ((k == 3) || ((k == 5) || ((k == 6) || (k == 7)))))
mutual
def condE : Ex → Bool
 | .mk k _ _ ks => isCondK k && condEs ks
def condEs : List Ex → Bool
 | [] => true
 | e :: es => condE e && condEs es
end
theorem condEs_eq : ∀ ks : List Ex, condEs ks = ks.all condE
 | [] => rfl
 | e :: es => by simp [condEs, condEs_eq es]
theorem condE_mk (k n : Int) (nn : Option Bool) (ks : List Ex) : condE (.mk k n nn ks) = (isCondK k && ks.all condE) := by rw [condE, condEs_eq]
mutual
def sizeE : Ex → Nat
 | .mk _ _ _ ks => 1 + sizeEs ks
def sizeEs : List Ex → Nat
 | [] => 0
 | e :: es => sizeE e + sizeEs es
end
theorem sizeE_mk (k n : Int) (nn : Option Bool) (ks : List Ex) : sizeE (.mk k n nn ks) = 1 + sizeEs ks := by rw [sizeE]
mutual
def depthE : Ex → Nat
 | .mk _ _ _ ks => 1 + depthEs ks
def depthEs : List Ex → Nat
 | [] => 0
 | e :: es => max (depthE e) (depthEs es)
end
theorem depthE_mk (k n : Int) (nn : Option Bool) (ks : List Ex) : depthE (.mk k n nn ks) = 1 + depthEs ks := by rw [depthE]
def headC : List Ex → Bool
 | x :: _ => condE x
 | [] => true
theorem headC_get : ∀ {ks : List Ex} (h : 0 < ks.length), headC ks = condE ks[0]
 | _ :: _, _ => rfl
def formOk (g : Int × Int) (k n : Int) (ks : List Ex) : Bool :=
 (kidsN k == ks.length) && (if k = 3 then isIn n 0 (IntKind.i64.wrap (g.1 - 1)) else if k = 4 then isIn n 0 (IntKind.i64.wrap (g.2 - 1)) else ((n == 0) && (if k = 5 then headC ks else true)))
mutual
def treeE (g : Int × Int) : Ex → Bool
 | .mk k n _ ks => formOk g k n ks && treeEs g ks
def treeEs (g : Int × Int) : List Ex → Bool
 | [] => true
 | e :: es => treeE g e && treeEs g es
end
theorem treeEs_eq (g : Int × Int) : ∀ ks : List Ex, treeEs g ks = ks.all (treeE g)
 | [] => rfl
 | e :: es => by simp [treeEs, treeEs_eq g es]
theorem treeE_mk (g : Int × Int) (k n : Int) (nn : Option Bool) (ks : List Ex) : treeE g (.mk k n nn ks) = (formOk g k n ks && ks.all (treeE g)) := by rw [treeE, treeEs_eq]
mutual
def shE (g : Int × Int) : Ex → Int → Int → Option Int
 | .mk k n _ ks => fun N d => if N = 0 ∨ d = 0 ∨ formOk g k n ks = false then none else shEs g ks (N - 1) (d - 1)
def shEs (g : Int × Int) : List Ex → Int → Int → Option Int
 | [] => fun N _ => some N
 | e :: es => fun N d => match shE g e N d with | none => none | some m => shEs g es m d
end
theorem shE_mk (g : Int × Int) (k n : Int) (nn : Option Bool) (ks : List Ex) (N d : Int) : shE g (.mk k n nn ks) N d = if N = 0 ∨ d = 0 ∨ formOk g k n ks = false then none else shEs g ks (N - 1) (d - 1) := by rw [shE]
def ok3 (t : Bool) (a N b d : Int) : Option Int := if t = true ∧ a ≤ N ∧ b ≤ d then some (N - a) else none

theorem shE_iff (g : Int × Int) : ∀ (e : Ex) (N d : Int), 0 ≤ N → 0 ≤ d → shE g e N d = ok3 (treeE g e) (sizeE e) N (depthE e) d :=
 Ex.ind fun k n nn ks ih N d hN hd => by
  have hs : ∀ (l : List Ex), (∀ e ∈ l, ∀ N d : Int, 0 ≤ N → 0 ≤ d → shE g e N d = ok3 (treeE g e) (sizeE e) N (depthE e) d) → ∀ N d : Int, 0 ≤ N → 0 ≤ d →
    shEs g l N d = ok3 (l.all (treeE g)) (sizeEs l) N (depthEs l) d := by
   intro l
   induction l with
   | nil => intro _ N d h1 h2; simp [ok3, shEs, sizeEs, depthEs, h1, h2]
   | cons e l ihl =>
    intro hl N d h1 h2
    simp only [shEs, hl e (by simp) N d h1 h2, List.all_cons, sizeEs, depthEs]
    unfold ok3
    by_cases hc : treeE g e = true ∧ (sizeE e : Int) ≤ N ∧ (depthE e : Int) ≤ d
    ·rw [if_pos hc]
     simp only
     rw [ihl (fun x hx => hl x (by simp [hx])) (N - sizeE e) d (by omega) h2]
     unfold ok3
     by_cases hc2 : l.all (treeE g) = true ∧ (sizeEs l : Int) ≤ N - sizeE e ∧ (depthEs l : Int) ≤ d
     ·rw [if_pos hc2]
      split
      ·congr 1
       omega
      ·next hne => exact absurd ⟨by simp [hc.1, hc2.1], by omega, by omega⟩ hne
     ·rw [if_neg hc2, if_neg]
      rintro ⟨a, b, c⟩
      simp only [Bool.and_eq_true] at a
      exact hc2 ⟨a.2, by omega, by omega⟩
    ·rw [if_neg hc, if_neg]
     rintro ⟨a, b, c⟩
     simp only [Bool.and_eq_true] at a
     exact hc ⟨a.1, by omega, by omega⟩
  rw [shE_mk, treeE_mk, sizeE_mk, depthE_mk]
  unfold ok3
  by_cases h0 : N = 0 ∨ d = 0 ∨ formOk g k n ks = false
  ·rw [if_pos h0, if_neg]
   rintro ⟨a, b, c⟩
   simp only [Bool.and_eq_true] at a
   rcases h0 with h0 | h0 | h0
   ·omega
   ·omega
   ·rw [a.1] at h0; cases h0
  ·rw [if_neg h0, hs ks ih (N - 1) (d - 1) (by omega) (by omega)]
   unfold ok3
   have hf : formOk g k n ks = true := by
    cases h : formOk g k n ks
    ·exact absurd (.inr (.inr h)) h0
    ·rfl
   rw [hf, Bool.true_and]
   by_cases hc : ks.all (treeE g) = true ∧ (sizeEs ks : Int) ≤ N - 1 ∧ (depthEs ks : Int) ≤ d - 1
   ·rw [if_pos hc]
    split
    ·congr 1
     omega
    ·next hne => exact absurd ⟨hc.1, by omega, by omega⟩ hne
   ·rw [if_neg hc, if_neg]
    rintro ⟨a, b, c⟩
    exact hc ⟨a, by omega, by omega⟩
def okE (g : Int × Int) (e : Ex) : Bool := decide (sizeE e ≤ 200) && (decide (depthE e ≤ 40) && treeE g e)
mutual
def leftE : Ex → Int → Int
 | .mk _ _ _ ks => fun l => leftEs ks (l - 1)
def leftEs : List Ex → Int → Int
 | [] => fun l => l
 | e :: es => fun l => if l < 0 then l else leftEs es (leftE e l)
end
theorem leftE_mk (k n : Int) (nn : Option Bool) (ks : List Ex) (l : Int) : leftE (.mk k n nn ks) l = leftEs ks (l - 1) := by rw [leftE]
theorem leftE_in : ∀ (e : Ex) (l : Int), 0 ≤ l → -1 ≤ leftE e l ∧ leftE e l ≤ l - 1 ∧ (0 ≤ leftE e l ↔ (sizeE e : Int) ≤ l) ∧ (0 ≤ leftE e l → leftE e l = l - sizeE e) :=
 Ex.ind fun k n nn ks ih l h1 => by
  have hs : ∀ (q : List Ex), (∀ e ∈ q, ∀ (l : Int), 0 ≤ l → -1 ≤ leftE e l ∧ leftE e l ≤ l - 1 ∧ (0 ≤ leftE e l ↔ (sizeE e : Int) ≤ l) ∧ (0 ≤ leftE e l → leftE e l = l - sizeE e)) → ∀ l : Int, -1 ≤ l →
    -1 ≤ leftEs q l ∧ leftEs q l ≤ l ∧ (0 ≤ leftEs q l ↔ (sizeEs q : Int) ≤ l) ∧ (0 ≤ leftEs q l → leftEs q l = l - sizeEs q) := by
   intro q
   induction q with
   | nil => intro _ l h; simp [leftEs, sizeEs]; omega
   | cons e q ihq =>
    intro hq l h
    simp only [leftEs, sizeEs]
    by_cases hl : l < 0
    ·rw [if_pos hl]
     refine ⟨h, Int.le_refl _, ?_, ?_⟩ <;> omega
    ·rw [if_neg hl]
     have a := hq e (by simp) l (by omega)
     have b := ihq (fun x hx => hq x (by simp [hx])) (leftE e l) a.1
     refine ⟨b.1, by omega, ?_, ?_⟩
     ·constructor
      ·intro h0
       have := b.2.2.1.1 h0
       have h5 : 0 ≤ leftE e l := by omega
       have := a.2.2.2 h5
       omega
      ·intro h0
       have h5 : 0 ≤ leftE e l := a.2.2.1.2 (by omega)
       have := a.2.2.2 h5
       exact b.2.2.1.2 (by omega)
     ·intro h0
      have h3 := b.2.2.2 h0
      have := b.2.2.1.1 h0
      have h5 : 0 ≤ leftE e l := by omega
      have := a.2.2.2 h5
      omega
  have := hs ks ih (l - 1) (by omega)
  rw [leftE_mk, sizeE_mk]
  refine ⟨this.1, this.2.1, ?_, ?_⟩
  ·rw [this.2.2.1]; omega
  ·intro h0; rw [this.2.2.2 h0]; omega
end Go.Ax
