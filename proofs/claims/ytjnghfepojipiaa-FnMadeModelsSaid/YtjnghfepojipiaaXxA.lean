/- Contracts of functions of the seat, proved over the engine. No condition. -/
import Derived.Test.YtjnghfepojipiaaEnH
set_option linter.unusedSimpArgs false
set_option linter.unusedVariables false
set_option linter.unnecessarySimpa false
namespace Go.Ax

inductive Ex where
 | mk (k n : Int) (nn : Option Bool) (ks : List Ex)
 deriving Inhabited
def Ex.k : Ex → Int | .mk k _ _ _ => k
def Ex.n : Ex → Int | .mk _ n _ _ => n
def Ex.nn : Ex → Option Bool | .mk _ _ nn _ => nn
def Ex.ks : Ex → List Ex | .mk _ _ _ ks => ks

mutual
theorem Ex.ind {p : Ex → Prop} (h : ∀ k n nn ks, (∀ e ∈ ks, p e) → p (.mk k n nn ks)) : ∀ e, p e
 | .mk k n nn ks => h k n nn ks (Ex.indL h ks)
theorem Ex.indL {p : Ex → Prop} (h : ∀ k n nn ks, (∀ e ∈ ks, p e) → p (.mk k n nn ks)) : ∀ ks : List Ex, ∀ e ∈ ks, p e
 | [] => by simp
 | x :: ks => List.forall_mem_cons.2 ⟨Ex.ind h x, Ex.indL h ks⟩
end

mutual
def eE : Ex → D
 | .mk k n nn ks => .ag [eI k, eI n, .ls nn 3 (eEs ks)]
def eEs : List Ex → List D
 | [] => []
 | e :: es => eE e :: eEs es
end
theorem eEs_map : ∀ ks : List Ex, eEs ks = ks.map eE
 | [] => rfl
 | e :: es => by simp [eEs, eEs_map es]
theorem eE_mk (k n : Int) (nn : Option Bool) (ks : List Ex) : eE (.mk k n nn ks) = .ag [.sc (.int .i64 k), .sc (.int .i64 n), .ls nn 3 (ks.map eE)] := by rw [eE, eEs_map]; rfl
theorem eE_size (e : Ex) : (eE e).size = 3 := by cases e; rw [eE_mk]; rfl
theorem eE_isAg (e : Ex) : (eE e).isAg = true := by cases e; rw [eE_mk]; rfl
@[go_sem] theorem eE_flat (e : Ex) : (eE e).flat = false := by cases e; rw [eE_mk]; rfl
theorem encE : Enc eE 3 true := ⟨by omega, eE_size, eE_isAg, fun x => by cases x; rw [eE_mk]; rfl⟩

mutual
def fitE : Ex → Prop
 | .mk _ _ _ ks => ks.length ≤ 1048576 ∧ fitEs ks
def fitEs : List Ex → Prop
 | [] => True
 | e :: es => fitE e ∧ fitEs es
end
theorem fitEs_iff : ∀ ks : List Ex, fitEs ks ↔ ∀ x ∈ ks, fitE x
 | [] => by simp [fitEs]
 | e :: es => by simp [fitEs, fitEs_iff es]
theorem fitE_mk (k n : Int) (nn : Option Bool) (ks : List Ex) : fitE (.mk k n nn ks) ↔ ks.length ≤ 1048576 ∧ ∀ x ∈ ks, fitE x := by rw [fitE, fitEs_iff]

end Go.Ax
namespace Go.Ax
def eG (g : Int × Int) : D := .ag [eI g.1, eI g.2]
def isIn (n lo hi : Int) : Bool := decide (lo ≤ n) && decide (n ≤ hi)
def okG (g : Int × Int) : Bool := isIn g.1 0 3 && isIn g.2 0 4

def k_within : RC := (.seq (.reg false [⟨none, .mv 6 (.c (.sc (.bool false)))⟩]) ((.seq (.reg false [⟨none, .mv 7 (.t 1)⟩, ⟨none, .mv 8 (.t 0)⟩, ⟨none, .bin 9 .leq (.t 7) (.t 8)⟩, ⟨none, .mv 10 (.t 9)⟩, ⟨some (10, true), .mv 11 (.t 0)⟩, ⟨some (10, true), .mv 12 (.t 2)⟩, ⟨some (10, true), .bin 13 .leq (.t 11) (.t 12)⟩, ⟨none, .pick 14 (.t 10) (.t 13) (.c (.sc (.bool false)))⟩, ⟨none, .mv 6 (.t 14)⟩]) (.ret))))
def K_within (P : Program) (f : Nat) : Prop := ∀ (n lo hi : Int), AF P f [eI n, eI lo, eI hi] (.own (eB (isIn n lo hi)))
theorem a_within {P : Program} (hm : P.follows .mixedOrders = true) {g : Nat} (hr : resF P g = some (15, k_within, [.t 6])) : K_within P g := by
 intro n lo hi
 refine af_of_res hr hm rfl fun hb => ?_
 simp +contextual -implicitDefEqProofs only [k_within, isIn, go_sem, eI, eB, ↓reduceIte, Nat.reduceEqDiff, Nat.reduceAdd]

def k_l00In : RC := (.seq (.reg false [⟨none, .mv 6 (.c (.sc (.bool false)))⟩]) ((.seq (.reg false [⟨none, .mv 7 (.t 0)⟩, ⟨none, .mv 8 (.t 1)⟩, ⟨none, .bin 9 .geq (.t 7) (.t 8)⟩, ⟨none, .mv 10 (.t 9)⟩, ⟨some (10, true), .mv 11 (.t 0)⟩, ⟨some (10, true), .mv 12 (.t 2)⟩, ⟨some (10, true), .bin 13 .leq (.t 11) (.t 12)⟩, ⟨none, .pick 14 (.t 10) (.t 13) (.c (.sc (.bool false)))⟩, ⟨none, .mv 6 (.t 14)⟩]) (.ret))))
def K_l00In (P : Program) (f : Nat) : Prop := ∀ (n lo hi : Int), AF P f [eI n, eI lo, eI hi] (.own (eB (isIn n lo hi)))
theorem a_l00In {P : Program} (hm : P.follows .mixedOrders = true) {g : Nat} (hr : resF P g = some (15, k_l00In, [.t 6])) : K_l00In P g := by
 intro n lo hi
 refine af_of_res hr hm rfl fun hb => ?_
 simp +contextual -implicitDefEqProofs only [k_l00In, isIn, go_sem, eI, eB, ↓reduceIte, Nat.reduceEqDiff, Nat.reduceAdd]

def k_validSig (f1 : Nat) : RC := (.seq (.reg false [⟨none, .box 1 2 (.t 0)⟩, ⟨none, .mv 2 (.c (.sc (.bool false)))⟩]) ((.seq (.reg false [⟨none, .fa 3 0 (.t 1)⟩, ⟨none, .ld 4 false 1 (.t 3)⟩, ⟨none, .call (some 5) f1 [(.t 4), (.c (.sc (.int .i64 0))), (.c (.sc (.int .i64 3)))]⟩, ⟨none, .mv 6 (.t 5)⟩, ⟨some (6, true), .fa 7 1 (.t 1)⟩, ⟨some (6, true), .ld 8 false 1 (.t 7)⟩, ⟨some (6, true), .call (some 9) f1 [(.t 8), (.c (.sc (.int .i64 0))), (.c (.sc (.int .i64 4)))]⟩, ⟨none, .pick 10 (.t 6) (.t 9) (.c (.sc (.bool false)))⟩, ⟨none, .mv 2 (.t 10)⟩]) (.ret))))
def K_validSig (P : Program) (f : Nat) : Prop := ∀ (g : Int × Int), AF P f [eG g] (.own (eB (okG g)))
theorem a_validSig {P : Program} (hm : P.follows .mixedOrders = true) {g f1 : Nat} (hr : resF P g = some (11, k_validSig f1, [.t 2])) (hc1 : K_within P f1) : K_validSig P g := by
 intro g
 refine af_of_res hr hm rfl fun hb => ?_
 simp +contextual -implicitDefEqProofs only [k_validSig, eG, go_sem, eI, eB, ↓reduceIte, Nat.reduceEqDiff, Nat.reduceAdd, Nat.reduceLeDiff, Nat.reduceLT]
 refine callQ_self ?_ (hc1 g.1 0 3) ?_
 ·exact rfl
 cases h1 : isIn g.1 0 3 <;> simp +contextual -implicitDefEqProofs only [okG, h1, go_sem, eB, ↓reduceIte, Nat.reduceEqDiff, Nat.reduceAdd, Nat.reduceLeDiff, Nat.reduceLT]
 refine callQ_self ?_ (hc1 g.2 0 4) ?_
 ·exact rfl
 simp +contextual -implicitDefEqProofs only [go_sem, eB, ↓reduceIte, Nat.reduceEqDiff]

def k_l01Sig (f1 : Nat) : RC := (.seq (.reg false [⟨none, .box 1 2 (.t 0)⟩, ⟨none, .mv 2 (.c (.sc (.bool false)))⟩]) ((.seq (.reg false [⟨none, .fa 3 0 (.t 1)⟩, ⟨none, .ld 4 false 1 (.t 3)⟩, ⟨none, .call (some 5) f1 [(.t 4), (.c (.sc (.int .i64 0))), (.c (.sc (.int .i64 3)))]⟩, ⟨none, .mv 6 (.t 5)⟩, ⟨some (6, true), .fa 7 1 (.t 1)⟩, ⟨some (6, true), .ld 8 false 1 (.t 7)⟩, ⟨some (6, true), .call (some 9) f1 [(.t 8), (.c (.sc (.int .i64 0))), (.c (.sc (.int .i64 4)))]⟩, ⟨none, .pick 10 (.t 6) (.t 9) (.c (.sc (.bool false)))⟩, ⟨none, .mv 2 (.t 10)⟩]) (.ret))))
def K_l01Sig (P : Program) (f : Nat) : Prop := ∀ (g : Int × Int), AF P f [eG g] (.own (eB (okG g)))
theorem a_l01Sig {P : Program} (hm : P.follows .mixedOrders = true) {g f1 : Nat} (hr : resF P g = some (11, k_l01Sig f1, [.t 2])) (hc1 : K_l00In P f1) : K_l01Sig P g := by
 intro g
 refine af_of_res hr hm rfl fun hb => ?_
 simp +contextual -implicitDefEqProofs only [k_l01Sig, eG, go_sem, eI, eB, ↓reduceIte, Nat.reduceEqDiff, Nat.reduceAdd, Nat.reduceLeDiff, Nat.reduceLT]
 refine callQ_self ?_ (hc1 g.1 0 3) ?_
 ·exact rfl
 cases h1 : isIn g.1 0 3 <;> simp +contextual -implicitDefEqProofs only [okG, h1, go_sem, eB, ↓reduceIte, Nat.reduceEqDiff, Nat.reduceAdd, Nat.reduceLeDiff, Nat.reduceLT]
 refine callQ_self ?_ (hc1 g.2 0 4) ?_
 ·exact rfl
 simp +contextual -implicitDefEqProofs only [go_sem, eB, ↓reduceIte, Nat.reduceEqDiff]

section
variable {P : Program} (hm : P.follows .mixedOrders = true)
include hm
end

end Go.Ax
namespace Go.Ax

inductive Pg where
 | mk (k n : Int) (c : Ex) (nn : Option Bool) (ks : List Pg)
 deriving Inhabited

mutual
theorem Pg.ind {p : Pg → Prop} (h : ∀ k n c nn ks, (∀ e ∈ ks, p e) → p (.mk k n c nn ks)) : ∀ e, p e
 | .mk k n c nn ks => h k n c nn ks (Pg.indL h ks)
theorem Pg.indL {p : Pg → Prop} (h : ∀ k n c nn ks, (∀ e ∈ ks, p e) → p (.mk k n c nn ks)) : ∀ ks : List Pg, ∀ e ∈ ks, p e
 | [] => by simp
 | x :: ks => List.forall_mem_cons.2 ⟨Pg.ind h x, Pg.indL h ks⟩
end

theorem eE_eta (e : Ex) : eE e = .ag [.sc (.int .i64 e.k), .sc (.int .i64 e.n), .ls e.nn 3 (e.ks.map eE)] := by cases e; rw [eE_mk]; rfl

mutual
def eP : Pg → D
 | .mk k n c nn ks => .ag [eI k, eI n, eI c.k, eI c.n, .ls c.nn 3 (c.ks.map eE), .ls nn 6 (ePs ks)]
def ePs : List Pg → List D
 | [] => []
 | e :: es => eP e :: ePs es
end
theorem ePs_map : ∀ ks : List Pg, ePs ks = ks.map eP
 | [] => rfl
 | e :: es => by simp [ePs, ePs_map es]
theorem eP_mk (k n : Int) (c : Ex) (nn : Option Bool) (ks : List Pg) : eP (.mk k n c nn ks) = .ag [.sc (.int .i64 k), .sc (.int .i64 n), .sc (.int .i64 c.k), .sc (.int .i64 c.n), .ls c.nn 3 (c.ks.map eE), .ls nn 6 (ks.map eP)] := by rw [eP, ePs_map]; rfl
@[go_sem] theorem eP_flat (e : Pg) : (eP e).flat = false := by cases e; rw [eP_mk]; rfl
end Go.Ax
namespace Go.Ax
set_option maxRecDepth 20000
set_option maxHeartbeats 4000000
theorem Ent.delEnv {n : Nat} {e e' : List (Nat × AV)} {us us' : List (Nat × U)} (k : Nat) (hu : killU k (AV.refs k) us = us') (h : subEnv (killE (AV.refs k) e) e') : Ent ⟨n, e, us⟩ ⟨n, e', us'⟩ :=
 Ent.trans (Ent.del ⟨n, e, us⟩ k) (Ent.env_us hu h)
def kidsN (k : Int) : Int := if k = 1 then 0 else if k = 2 then 0 else if k = 3 then 0 else if k = 4 then 0 else if k = 5 then 1 else if k = 8 then 1 else if k = 6 then 2 else if k = 7 then 2 else -1
def isCondK (k : Int) : Bool := (k == 1) || ((k == 2) || ((k == 3) || ((k == 5) || ((k == 6) || (k == 7)))))
mutual
def condE : Ex → Bool
 | .mk k _ _ ks => isCondK k && condEs ks
def condEs : List Ex → Bool
 | [] => true
 | e :: es => condE e && condEs es
end
theorem condEs_eq : ∀ ks : List Ex, condEs ks = ks.all condE
 | [] => rfl
 | e :: es => by simp [condEs, condEs_eq es]
theorem condE_mk (k n : Int) (nn : Option Bool) (ks : List Ex) : condE (.mk k n nn ks) = (isCondK k && ks.all condE) := by rw [condE, condEs_eq]
mutual
def sizeE : Ex → Nat
 | .mk _ _ _ ks => 1 + sizeEs ks
def sizeEs : List Ex → Nat
 | [] => 0
 | e :: es => sizeE e + sizeEs es
end
theorem sizeE_mk (k n : Int) (nn : Option Bool) (ks : List Ex) : sizeE (.mk k n nn ks) = 1 + sizeEs ks := by rw [sizeE]
mutual
def depthE : Ex → Nat
 | .mk _ _ _ ks => 1 + depthEs ks
def depthEs : List Ex → Nat
 | [] => 0
 | e :: es => max (depthE e) (depthEs es)
end
theorem depthE_mk (k n : Int) (nn : Option Bool) (ks : List Ex) : depthE (.mk k n nn ks) = 1 + depthEs ks := by rw [depthE]
def headC : List Ex → Bool
 | x :: _ => condE x
 | [] => true
theorem headC_get : ∀ {ks : List Ex} (h : 0 < ks.length), headC ks = condE ks[0]
 | _ :: _, _ => rfl
def formOk (g : Int × Int) (k n : Int) (ks : List Ex) : Bool :=
 (kidsN k == ks.length) && (if k = 3 then isIn n 0 (IntKind.i64.wrap (g.1 - 1)) else if k = 4 then isIn n 0 (IntKind.i64.wrap (g.2 - 1)) else ((n == 0) && (if k = 5 then headC ks else true)))
mutual
def treeE (g : Int × Int) : Ex → Bool
 | .mk k n _ ks => formOk g k n ks && treeEs g ks
def treeEs (g : Int × Int) : List Ex → Bool
 | [] => true
 | e :: es => treeE g e && treeEs g es
end
theorem treeEs_eq (g : Int × Int) : ∀ ks : List Ex, treeEs g ks = ks.all (treeE g)
 | [] => rfl
 | e :: es => by simp [treeEs, treeEs_eq g es]
theorem treeE_mk (g : Int × Int) (k n : Int) (nn : Option Bool) (ks : List Ex) : treeE g (.mk k n nn ks) = (formOk g k n ks && ks.all (treeE g)) := by rw [treeE, treeEs_eq]
mutual
def shE (g : Int × Int) : Ex → Int → Int → Option Int
 | .mk k n _ ks => fun N d => if N = 0 ∨ d = 0 ∨ formOk g k n ks = false then none else shEs g ks (N - 1) (d - 1)
def shEs (g : Int × Int) : List Ex → Int → Int → Option Int
 | [] => fun N _ => some N
 | e :: es => fun N d => match shE g e N d with | none => none | some m => shEs g es m d
end
theorem shE_mk (g : Int × Int) (k n : Int) (nn : Option Bool) (ks : List Ex) (N d : Int) : shE g (.mk k n nn ks) N d = if N = 0 ∨ d = 0 ∨ formOk g k n ks = false then none else shEs g ks (N - 1) (d - 1) := by rw [shE]
def ok3 (t : Bool) (a N b d : Int) : Option Int := if t = true ∧ a ≤ N ∧ b ≤ d then some (N - a) else none

theorem shE_iff (g : Int × Int) : ∀ (e : Ex) (N d : Int), 0 ≤ N → 0 ≤ d → shE g e N d = ok3 (treeE g e) (sizeE e) N (depthE e) d :=
 Ex.ind fun k n nn ks ih N d hN hd => by
  have hs : ∀ (l : List Ex), (∀ e ∈ l, ∀ N d : Int, 0 ≤ N → 0 ≤ d → shE g e N d = ok3 (treeE g e) (sizeE e) N (depthE e) d) → ∀ N d : Int, 0 ≤ N → 0 ≤ d →
    shEs g l N d = ok3 (l.all (treeE g)) (sizeEs l) N (depthEs l) d := by
   intro l
   induction l with
   | nil => intro _ N d h1 h2; simp [ok3, shEs, sizeEs, depthEs, h1, h2]
   | cons e l ihl =>
    intro hl N d h1 h2
    simp only [shEs, hl e (by simp) N d h1 h2, List.all_cons, sizeEs, depthEs]
    unfold ok3
    by_cases hc : treeE g e = true ∧ (sizeE e : Int) ≤ N ∧ (depthE e : Int) ≤ d
    ·rw [if_pos hc]
     simp only
     rw [ihl (fun x hx => hl x (by simp [hx])) (N - sizeE e) d (by omega) h2]
     unfold ok3
     by_cases hc2 : l.all (treeE g) = true ∧ (sizeEs l : Int) ≤ N - sizeE e ∧ (depthEs l : Int) ≤ d
     ·rw [if_pos hc2]
      split
      ·congr 1
       omega
      ·next hne => exact absurd ⟨by simp [hc.1, hc2.1], by omega, by omega⟩ hne
     ·rw [if_neg hc2, if_neg]
      rintro ⟨a, b, c⟩
      simp only [bA] at a
      exact hc2 ⟨a.2, by omega, by omega⟩
    ·rw [if_neg hc, if_neg]
     rintro ⟨a, b, c⟩
     simp only [bA] at a
     exact hc ⟨a.1, by omega, by omega⟩
  rw [shE_mk, treeE_mk, sizeE_mk, depthE_mk]
  unfold ok3
  by_cases h0 : N = 0 ∨ d = 0 ∨ formOk g k n ks = false
  ·rw [if_pos h0, if_neg]
   rintro ⟨a, b, c⟩
   simp only [bA] at a
   rcases h0 with h0 | h0 | h0
   ·omega
   ·omega
   ·rw [a.1] at h0; cases h0
  ·rw [if_neg h0, hs ks ih (N - 1) (d - 1) (by omega) (by omega)]
   unfold ok3
   have hf : formOk g k n ks = true := by
    cases h : formOk g k n ks
    ·exact absurd (.inr (.inr h)) h0
    ·rfl
   rw [hf, Bool.true_and]
   by_cases hc : ks.all (treeE g) = true ∧ (sizeEs ks : Int) ≤ N - 1 ∧ (depthEs ks : Int) ≤ d - 1
   ·rw [if_pos hc]
    split
    ·congr 1
     omega
    ·next hne => exact absurd ⟨hc.1, by omega, by omega⟩ hne
   ·rw [if_neg hc, if_neg]
    rintro ⟨a, b, c⟩
    exact hc ⟨a, by omega, by omega⟩
def okE (g : Int × Int) (e : Ex) : Bool := decide (sizeE e ≤ 200) && (decide (depthE e ≤ 40) && treeE g e)
end Go.Ax
namespace Go.Ax
set_option maxRecDepth 20000
set_option maxHeartbeats 4000000

def k_kidsOf : RC := (.seq (.reg false [⟨none, .mv 2 (.c (.sc (.int .i64 0)))⟩]) ((.seq ((.seq (.reg false [⟨none, .mv 3 (.t 0)⟩]) (.blk 0 ((.seq ((.seq (.reg false [⟨none, .bin 5 .eql (.t 3) (.c (.sc (.int .i64 1)))⟩, ⟨none, .mv 4 (.t 5)⟩]) (.cond (.t 4) (.skip) ((.seq (.reg false [⟨none, .bin 6 .eql (.t 3) (.c (.sc (.int .i64 2)))⟩, ⟨none, .mv 4 (.t 6)⟩]) (.cond (.t 4) (.skip) ((.seq (.reg false [⟨none, .bin 7 .eql (.t 3) (.c (.sc (.int .i64 3)))⟩, ⟨none, .mv 4 (.t 7)⟩]) (.cond (.t 4) (.skip) (.reg false [⟨none, .bin 8 .eql (.t 3) (.c (.sc (.int .i64 4)))⟩, ⟨none, .mv 4 (.t 8)⟩])))))))))) (.cond (.t 4) ((.seq (.reg false [⟨none, .mv 2 (.c (.sc (.int .i64 0)))⟩]) (.ret))) ((.seq ((.seq (.reg false [⟨none, .bin 10 .eql (.t 3) (.c (.sc (.int .i64 5)))⟩, ⟨none, .mv 9 (.t 10)⟩]) (.cond (.t 9) (.skip) (.reg false [⟨none, .bin 11 .eql (.t 3) (.c (.sc (.int .i64 8)))⟩, ⟨none, .mv 9 (.t 11)⟩])))) (.cond (.t 9) ((.seq (.reg false [⟨none, .mv 2 (.c (.sc (.int .i64 1)))⟩]) (.ret))) ((.seq ((.seq (.reg false [⟨none, .bin 13 .eql (.t 3) (.c (.sc (.int .i64 6)))⟩, ⟨none, .mv 12 (.t 13)⟩]) (.cond (.t 12) (.skip) (.reg false [⟨none, .bin 14 .eql (.t 3) (.c (.sc (.int .i64 7)))⟩, ⟨none, .mv 12 (.t 14)⟩])))) (.cond (.t 12) ((.seq (.reg false [⟨none, .mv 2 (.c (.sc (.int .i64 2)))⟩]) (.ret))) (.skip))))))))))))) ((.seq (.reg false [⟨none, .mv 2 (.c (.sc (.int .i64 (-1))))⟩]) (.ret))))))
def K_kidsOf (P : Program) (f : Nat) : Prop := ∀ (k : Int), AF P f [eI k] (.own (eI (kidsN k)))
theorem a_kidsOf {P : Program} (hm : P.follows .mixedOrders = true) {g : Nat} (hr : resF P g = some (15, k_kidsOf, [.t 2])) : K_kidsOf P g := by
 intro k
 refine af_of_res hr hm rfl fun hb => ?_
 by_cases c1 : k = 1
 ·subst c1
  simp +contextual -implicitDefEqProofs only [k_kidsOf, bE, go_sem, eI, ↓reduceIte, Nat.reduceEqDiff]
  try exact D.Le.sc_eq (congrArg (Value.int .i64) (by decide))
 have b1 : (k == 1) = false := by simpa using c1
 by_cases c2 : k = 2
 ·subst c2
  simp +contextual -implicitDefEqProofs only [k_kidsOf, Int.reduceBEq, bE, go_sem, eI, ↓reduceIte, Nat.reduceEqDiff]
  try exact D.Le.sc_eq (congrArg (Value.int .i64) (by decide))
 have b2 : (k == 2) = false := by simpa using c2
 by_cases c3 : k = 3
 ·subst c3
  simp +contextual -implicitDefEqProofs only [k_kidsOf, Int.reduceBEq, bE, go_sem, eI, ↓reduceIte, Nat.reduceEqDiff]
  try exact D.Le.sc_eq (congrArg (Value.int .i64) (by decide))
 have b3 : (k == 3) = false := by simpa using c3
 by_cases c4 : k = 4
 ·subst c4
  simp +contextual -implicitDefEqProofs only [k_kidsOf, Int.reduceBEq, bE, go_sem, eI, ↓reduceIte, Nat.reduceEqDiff]
  try exact D.Le.sc_eq (congrArg (Value.int .i64) (by decide))
 have b4 : (k == 4) = false := by simpa using c4
 by_cases c5 : k = 5
 ·subst c5
  simp +contextual -implicitDefEqProofs only [k_kidsOf, Int.reduceBEq, bE, go_sem, eI, ↓reduceIte, Nat.reduceEqDiff]
  try exact D.Le.sc_eq (congrArg (Value.int .i64) (by decide))
 have b5 : (k == 5) = false := by simpa using c5
 by_cases c8 : k = 8
 ·subst c8
  simp +contextual -implicitDefEqProofs only [k_kidsOf, Int.reduceBEq, bE, go_sem, eI, ↓reduceIte, Nat.reduceEqDiff]
  try exact D.Le.sc_eq (congrArg (Value.int .i64) (by decide))
 have b8 : (k == 8) = false := by simpa using c8
 by_cases c6 : k = 6
 ·subst c6
  simp +contextual -implicitDefEqProofs only [k_kidsOf, Int.reduceBEq, bE, go_sem, eI, ↓reduceIte, Nat.reduceEqDiff]
  try exact D.Le.sc_eq (congrArg (Value.int .i64) (by decide))
 have b6 : (k == 6) = false := by simpa using c6
 by_cases c7 : k = 7
 ·subst c7
  simp +contextual -implicitDefEqProofs only [k_kidsOf, Int.reduceBEq, bE, go_sem, eI, ↓reduceIte, Nat.reduceEqDiff]
  try exact D.Le.sc_eq (congrArg (Value.int .i64) (by decide))
 have b7 : (k == 7) = false := by simpa using c7
 simp +contextual -implicitDefEqProofs only [k_kidsOf, b1, b2, b3, b4, b5, b6, b7, b8, go_sem, eI, ↓reduceIte, Nat.reduceEqDiff]
 exact D.Le.sc_eq (by simp [kidsN, c1, c2, c3, c4, c5, c6, c7, c8])

def k_isCondition (g : Nat) : RC := (.seq (.reg false [⟨none, .box 1 3 (.t 0)⟩, ⟨none, .mv 2 (.c (.sc (.bool false)))⟩]) ((.seq ((.seq (.reg false [⟨none, .fa 5 0 (.t 1)⟩, ⟨none, .ld 6 false 1 (.t 5)⟩]) (.blk 0 ((.seq ((.seq (.reg false [⟨none, .bin 8 .eql (.t 6) (.c (.sc (.int .i64 1)))⟩, ⟨none, .mv 7 (.t 8)⟩]) (.cond (.t 7) (.skip) ((.seq (.reg false [⟨none, .bin 9 .eql (.t 6) (.c (.sc (.int .i64 2)))⟩, ⟨none, .mv 7 (.t 9)⟩]) (.cond (.t 7) (.skip) ((.seq (.reg false [⟨none, .bin 10 .eql (.t 6) (.c (.sc (.int .i64 3)))⟩, ⟨none, .mv 7 (.t 10)⟩]) (.cond (.t 7) (.skip) ((.seq (.reg false [⟨none, .bin 11 .eql (.t 6) (.c (.sc (.int .i64 5)))⟩, ⟨none, .mv 7 (.t 11)⟩]) (.cond (.t 7) (.skip) ((.seq (.reg false [⟨none, .bin 12 .eql (.t 6) (.c (.sc (.int .i64 6)))⟩, ⟨none, .mv 7 (.t 12)⟩]) (.cond (.t 7) (.skip) (.reg false [⟨none, .bin 13 .eql (.t 6) (.c (.sc (.int .i64 7)))⟩, ⟨none, .mv 7 (.t 13)⟩])))))))))))))))) (.cond (.t 7) (.skip) ((.seq (.reg false [⟨none, .mv 2 (.c (.sc (.bool false)))⟩]) (.ret))))))))) ((.seq ((.seq (.reg false [⟨none, .fa 14 2 (.t 1)⟩, ⟨none, .ld 15 false 1 (.t 14)⟩, ⟨none, .len 16 (.t 15)⟩, ⟨none, .mv 17 (.c (.sc (.int .i64 0)))⟩]) (.blk 1 (.loop ((.seq (.reg false [⟨none, .bin 18 .lss (.t 17) (.t 16)⟩]) ((.seq (.cond (.t 18) (.skip) (.exit 1)) ((.seq (.blk 2 ((.seq (.reg false [⟨none, .ia 19 3 (.t 15) (.t 17)⟩, ⟨none, .ld 20 true 3 (.t 19)⟩, ⟨none, .zer 4 3 (.ag [(.sc (.int .i64 0)), (.sc (.int .i64 0)), (.ls (some true) 3 [])])⟩, ⟨none, .st 3 (.t 4) (.t 20)⟩]) ((.seq (.reg false [⟨none, .ld 21 true 3 (.t 4)⟩, ⟨none, .call (some 22) g [(.t 21)]⟩, ⟨none, .un 23 .not (.t 22)⟩]) (.cond (.t 23) ((.seq (.reg false [⟨none, .mv 2 (.c (.sc (.bool false)))⟩]) (.ret))) (.skip))))))) (.reg false [⟨none, .bin 24 .add (.t 17) (.c (.sc (.int .i64 1)))⟩, ⟨none, .mv 17 (.t 24)⟩]))))))))))) ((.seq (.reg false [⟨none, .mv 2 (.c (.sc (.bool true)))⟩]) (.ret))))))))
def K_isCondition (P : Program) (f : Nat) : Prop := ∀ (e : Ex), AF P f [eE e] (.own (eB (condE e)))
theorem a_isCondition {P : Program} (hm : P.follows .mixedOrders = true) {g : Nat} (hr : resF P g = some (25, k_isCondition g, [.t 2])) : K_isCondition P g := by
 intro e
 refine Ex.ind (p := fun e => AF P g [eE e] (.own (eB (condE e)))) (fun k n nn ks ih => ?_) e
 rw [eE_mk, condE_mk]
 refine af_of_res hr hm rfl fun hb => ?_
 have hl : ks.length ≤ 9223372036854775807 := by
  have := hb.1
  simp only [D.bd, D.bdL, lM, maxEl] at this
  exact this.2.2.1.1
 cases hk : isCondK k
 ·have hk' := hk
  simp only [isCondK, Bool.or_eq_false_iff] at hk'
  obtain ⟨k1, k2, k3, k5, k6, k7⟩ := hk'
  simp +contextual -implicitDefEqProofs only [k_isCondition, k1, k2, k3, k5, k6, k7, Bool.false_and, bU, go_sem, eB, ↓reduceIte, Nat.reduceEqDiff, Nat.reduceAdd, Nat.reduceLeDiff, Nat.reduceLT]
 have hk' : k = 1 ∨ k = 2 ∨ k = 3 ∨ k = 5 ∨ k = 6 ∨ k = 7 := by simpa [isCondK] using hk
 rcases hk' with h | h | h | h | h | h
 all_goals
  subst h
  simp +contextual -implicitDefEqProofs only [k_isCondition, Int.reduceBEq, bE, Bool.true_and, bU, go_sem, eB, ↓reduceIte, Nat.reduceEqDiff, Nat.reduceAdd, Nat.reduceLeDiff, Nat.reduceLT]
  refine vc_on (α := Nat) [2, 4, 17, 18, 19, 20, 21, 22, 23, 24] (fun i => [(17, .im none (.sc (.int .i64 i)))]) (fun i => i ≤ ks.length ∧ (ks.take i).all condE = true) (fun i => ks.length - i) 0 (by simp only [subEnv, go_sem, ↓reduceIte]; simp) ⟨Nat.zero_le _, rfl⟩ ?_
  rintro i ⟨j1, j2⟩
  by_cases hi : i < ks.length
  ·have e1 := at_map (f := eE) hi
   cases n1 : (eE ks[i]).noPtr
   all_goals
    simp +contextual -implicitDefEqProofs only [e1, hi, encE.sub, eE_size, eE_isAg, iL, lM, iN, Nat.zero_lt_one, n1, bne, bN, bU, go_sem, ↓reduceIte, Nat.reduceEqDiff, Nat.reduceAdd, Nat.reduceLeDiff, Nat.reduceBEq]
    refine callQ_self ?_ (ih ks[i] (List.getElem_mem _)) ?_
    ·exact rfl
    cases hx : condE ks[i]
    ·simp +contextual -implicitDefEqProofs only [bN, go_sem, eB, ↓reduceIte]
     exact D.Le.sc_eq (by rw [all_fail hi hx])
    ·simp +contextual -implicitDefEqProofs only [bT, go_sem, eB, ↓reduceIte, Nat.reduceEqDiff]
     rw [wrap_i64 (by omega) (by omega)]
     exact ⟨i + 1, ⟨by omega, all_take_succ hi j2 hx⟩, by omega, Ent.delEnv 4 (by simp only [go_sem, ↓reduceIte, Nat.reduceEqDiff, killU, U.kill]) (by simp only [subEnv, go_sem, ↓reduceIte, Nat.reduceEqDiff, Nat.reduceBEq, killE, AV.refs]; simp)⟩
  ·simp +contextual -implicitDefEqProofs only [hi, iL, go_sem, ↓reduceIte, Nat.reduceEqDiff]
   exact D.Le.sc_eq (by rw [all_of_take hi j2])
theorem shE_some {g : Int × Int} {e : Ex} {N d m : Int} (hN : 0 ≤ N) (hd : 0 ≤ d) (h : shE g e N d = some m) : 0 ≤ m ∧ m ≤ N := by
 rw [shE_iff g e N d hN hd] at h
 unfold ok3 at h
 split at h
 ·next hc => injection h with h; omega
 ·cases h
theorem shEs_step {g : Int × Int} {ks : List Ex} {i : Nat} (hi : i < ks.length) (m d : Int) : shEs g (ks.drop i) m d = match shE g ks[i] m d with | none => none | some q => shEs g (ks.drop (i + 1)) q d := by
 rw [List.drop_eq_getElem_cons hi, shEs]
 first | done | rfl

def k_shaped (g f1 f2 f3 : Nat) : RC := (.seq (.reg false [⟨none, .box 4 2 (.t 0)⟩, ⟨none, .box 5 3 (.t 1)⟩, ⟨none, .mv 8 (.c (.sc (.int .i64 0)))⟩, ⟨none, .mv 9 (.c (.sc (.bool false)))⟩]) ((.seq ((.seq (.reg true [⟨none, .mv 14 (.t 2)⟩, ⟨none, .bin 15 .eql (.t 14) (.c (.sc (.int .i64 0)))⟩, ⟨none, .mv 16 (.t 15)⟩, ⟨some (16, false), .mv 17 (.t 3)⟩, ⟨some (16, false), .bin 18 .eql (.t 17) (.c (.sc (.int .i64 0)))⟩, ⟨none, .pick 19 (.t 16) (.c (.sc (.bool true))) (.t 18)⟩, ⟨none, .mv 20 (.t 19)⟩, ⟨some (20, false), .fa 21 0 (.t 5)⟩, ⟨some (20, false), .ld 22 false 1 (.t 21)⟩, ⟨some (20, false), .call (some 23) f1 [(.t 22)]⟩, ⟨some (20, false), .fa 24 2 (.t 5)⟩, ⟨some (20, false), .ld 25 false 1 (.t 24)⟩, ⟨some (20, false), .len 26 (.t 25)⟩, ⟨some (20, false), .bin 27 .neq (.t 23) (.t 26)⟩, ⟨none, .pick 28 (.t 20) (.c (.sc (.bool true))) (.t 27)⟩]) (.cond (.t 28) ((.seq (.reg false [⟨none, .mv 8 (.c (.sc (.int .i64 0)))⟩, ⟨none, .mv 9 (.c (.sc (.bool false)))⟩]) (.ret))) (.skip)))) ((.seq ((.seq (.reg false [⟨none, .fa 29 0 (.t 5)⟩, ⟨none, .ld 30 false 1 (.t 29)⟩]) (.blk 0 ((.seq (.reg false [⟨none, .bin 35 .eql (.t 30) (.c (.sc (.int .i64 3)))⟩, ⟨none, .mv 34 (.t 35)⟩]) (.cond (.t 34) ((.seq (.reg false [⟨none, .fa 36 1 (.t 5)⟩, ⟨none, .ld 37 false 1 (.t 36)⟩, ⟨none, .fa 38 0 (.t 4)⟩, ⟨none, .ld 39 false 1 (.t 38)⟩, ⟨none, .bin 40 .sub (.t 39) (.c (.sc (.int .i64 1)))⟩, ⟨none, .call (some 41) f2 [(.t 37), (.c (.sc (.int .i64 0))), (.t 40)]⟩, ⟨none, .un 42 .not (.t 41)⟩]) (.cond (.t 42) ((.seq (.reg false [⟨none, .mv 8 (.c (.sc (.int .i64 0)))⟩, ⟨none, .mv 9 (.c (.sc (.bool false)))⟩]) (.ret))) (.skip)))) ((.seq (.reg false [⟨none, .bin 44 .eql (.t 30) (.c (.sc (.int .i64 4)))⟩, ⟨none, .mv 43 (.t 44)⟩]) (.cond (.t 43) ((.seq (.reg false [⟨none, .fa 45 1 (.t 5)⟩, ⟨none, .ld 46 false 1 (.t 45)⟩, ⟨none, .fa 47 1 (.t 4)⟩, ⟨none, .ld 48 false 1 (.t 47)⟩, ⟨none, .bin 49 .sub (.t 48) (.c (.sc (.int .i64 1)))⟩, ⟨none, .call (some 50) f2 [(.t 46), (.c (.sc (.int .i64 0))), (.t 49)]⟩, ⟨none, .un 51 .not (.t 50)⟩]) (.cond (.t 51) ((.seq (.reg false [⟨none, .mv 8 (.c (.sc (.int .i64 0)))⟩, ⟨none, .mv 9 (.c (.sc (.bool false)))⟩]) (.ret))) (.skip)))) ((.seq (.reg false [⟨none, .fa 31 1 (.t 5)⟩, ⟨none, .ld 32 false 1 (.t 31)⟩, ⟨none, .bin 33 .neq (.t 32) (.c (.sc (.int .i64 0)))⟩]) (.cond (.t 33) ((.seq (.reg false [⟨none, .mv 8 (.c (.sc (.int .i64 0)))⟩, ⟨none, .mv 9 (.c (.sc (.bool false)))⟩]) (.ret))) (.skip))))))))))))) ((.seq ((.seq (.reg false [⟨none, .fa 52 0 (.t 5)⟩, ⟨none, .ld 53 false 1 (.t 52)⟩, ⟨none, .bin 54 .eql (.t 53) (.c (.sc (.int .i64 5)))⟩, ⟨none, .mv 55 (.t 54)⟩, ⟨some (55, true), .fa 56 2 (.t 5)⟩, ⟨some (55, true), .ld 57 false 1 (.t 56)⟩, ⟨some (55, true), .ia 58 3 (.t 57) (.c (.sc (.int .i64 0)))⟩, ⟨some (55, true), .ld 59 true 3 (.t 58)⟩, ⟨some (55, true), .call (some 60) f3 [(.t 59)]⟩, ⟨some (55, true), .un 61 .not (.t 60)⟩, ⟨none, .pick 62 (.t 55) (.t 61) (.c (.sc (.bool false)))⟩]) (.cond (.t 62) ((.seq (.reg false [⟨none, .mv 8 (.c (.sc (.int .i64 0)))⟩, ⟨none, .mv 9 (.c (.sc (.bool false)))⟩]) (.ret))) (.skip)))) ((.seq (.reg false [⟨none, .mv 63 (.t 2)⟩, ⟨none, .bin 64 .sub (.t 63) (.c (.sc (.int .i64 1)))⟩, ⟨none, .mv 2 (.t 64)⟩]) ((.seq ((.seq (.reg false [⟨none, .fa 65 2 (.t 5)⟩, ⟨none, .ld 66 false 1 (.t 65)⟩, ⟨none, .len 67 (.t 66)⟩, ⟨none, .mv 68 (.c (.sc (.int .i64 0)))⟩]) (.blk 1 (.loop ((.seq (.reg false [⟨none, .bin 69 .lss (.t 68) (.t 67)⟩]) ((.seq (.cond (.t 69) (.skip) (.exit 1)) ((.seq (.blk 2 ((.seq (.reg false [⟨none, .ia 70 3 (.t 66) (.t 68)⟩, ⟨none, .ld 71 true 3 (.t 70)⟩, ⟨none, .zer 11 3 (.ag [(.sc (.int .i64 0)), (.sc (.int .i64 0)), (.ls (some true) 3 [])])⟩, ⟨none, .st 3 (.t 11) (.t 71)⟩]) ((.seq (.reg false [⟨none, .ld 73 true 2 (.t 4)⟩, ⟨none, .ld 74 true 3 (.t 11)⟩, ⟨none, .mv 75 (.t 2)⟩, ⟨none, .mv 76 (.t 3)⟩, ⟨none, .bin 77 .sub (.t 76) (.c (.sc (.int .i64 1)))⟩, ⟨none, .call (some 78) g [(.t 73), (.t 74), (.t 75), (.t 77)]⟩, ⟨none, .mv 72 (.t 78)⟩, ⟨none, .ext 79 (.t 72) 0⟩, ⟨none, .ext 80 (.t 72) 1⟩, ⟨none, .mv 12 (.t 79)⟩, ⟨none, .mv 13 (.t 80)⟩]) ((.seq ((.seq (.reg false [⟨none, .mv 81 (.t 13)⟩, ⟨none, .un 82 .not (.t 81)⟩]) (.cond (.t 82) ((.seq (.reg false [⟨none, .mv 8 (.c (.sc (.int .i64 0)))⟩, ⟨none, .mv 9 (.c (.sc (.bool false)))⟩]) (.ret))) (.skip)))) (.reg false [⟨none, .mv 83 (.t 12)⟩, ⟨none, .mv 2 (.t 83)⟩])))))))) (.reg false [⟨none, .bin 84 .add (.t 68) (.c (.sc (.int .i64 1)))⟩, ⟨none, .mv 68 (.t 84)⟩]))))))))))) ((.seq (.reg false [⟨none, .mv 85 (.t 2)⟩, ⟨none, .mv 8 (.t 85)⟩, ⟨none, .mv 9 (.c (.sc (.bool true)))⟩]) (.ret))))))))))))))
def K_shaped (P : Program) (f : Nat) : Prop := ∀ (g : Int × Int) (e : Ex) (N d : Int) (h1 : 0 ≤ N) (h2 : N ≤ 1048576) (h3 : 0 ≤ d) (h4 : d ≤ 1048576), AF P f [eG g, eE e, eI N, eI d] (.tup ([.own (eI ((shE g e N d).getD 0)), .own (eB (shE g e N d).isSome)]))
theorem a_shaped {P : Program} (hm : P.follows .mixedOrders = true) {g f1 f2 f3 : Nat} (hr : resF P g = some (86, k_shaped g f1 f2 f3, [.t 8, .t 9])) (hc1 : K_kidsOf P f1) (hc2 : K_within P f2) (hc3 : K_isCondition P f3) : K_shaped P g := by
 intro g e N d h1 h2 h3 h4
 rename_i gg
 revert N d
 refine Ex.ind (p := fun e => ∀ N d : Int, 0 ≤ N → N ≤ 1048576 → 0 ≤ d → d ≤ 1048576 → AF P gg [eG g, eE e, eI N, eI d] (.tup [.own (eI ((shE g e N d).getD 0)), .own (eB (shE g e N d).isSome)])) (fun k n nn ks ih N d h1 h2 h3 h4 => ?_) e
 have hv := shE_mk g k n nn ks N d
 rw [eE_mk]
 refine af_of_res hr hm rfl fun hb => ?_
 have hl : ks.length ≤ 9223372036854775807 := by
  have := hb.2.1
  simp only [D.bd, D.bdL, lM, maxEl] at this
  exact this.2.2.1.1
 cases b1 : (N == 0)
 case true =>
  have hn := hv.trans (if_pos (.inl (by simpa using b1)))
  simp +contextual -implicitDefEqProofs only [k_shaped, eG, b1, bne, bN, bU, go_sem, eI, eB, ↓reduceIte, Nat.reduceEqDiff, Nat.reduceAdd, Nat.reduceBEq, Nat.reduceLT]
  exact ⟨D.Le.sc_eq (by rw [hn]; rfl), D.Le.sc_eq (by rw [hn]; rfl)⟩
 have b1' : ¬ N = 0 := by simpa using b1
 cases b2 : (d == 0)
 case true =>
  have hn := hv.trans (if_pos (.inr (.inl (by simpa using b2))))
  simp +contextual -implicitDefEqProofs only [k_shaped, eG, b1, b2, bne, bN, bU, go_sem, eI, eB, ↓reduceIte, Nat.reduceEqDiff, Nat.reduceAdd, Nat.reduceBEq, Nat.reduceLT]
  exact ⟨D.Le.sc_eq (by rw [hn]; rfl), D.Le.sc_eq (by rw [hn]; rfl)⟩
 have b2' : ¬ d = 0 := by simpa using b2
 simp +contextual -implicitDefEqProofs only [k_shaped, eG, b1, b2, bne, bN, bU, go_sem, eI, eB, ↓reduceIte, Nat.reduceEqDiff, Nat.reduceAdd, Nat.reduceLeDiff, Nat.reduceBEq, Nat.reduceLT]
 refine callQ_self ?_ (hc1 k) ?_
 ·exact rfl
 cases hk : (kidsN k == (ks.length : Int))
 ·simp +contextual -implicitDefEqProofs only [hk, lM, bne, bN, go_sem, eI, ↓reduceIte, Nat.reduceEqDiff, Nat.reduceAdd, Nat.reduceLeDiff, Nat.reduceLT]
  exact ⟨D.Le.sc_eq (by rw [(hv.trans (if_pos (.inr (.inr (by simp [formOk, hk])))))]; rfl), D.Le.sc_eq (by rw [(hv.trans (if_pos (.inr (.inr (by simp [formOk, hk])))))]; rfl)⟩
 have hk' : kidsN k = ks.length := by simpa using hk
 by_cases c3 : k = 3
 ·subst c3
  simp +contextual -implicitDefEqProofs only [hk, lM, bE, bne, bT, go_sem, eI, ↓reduceIte, Nat.reduceEqDiff, Nat.reduceAdd, Nat.reduceLeDiff, Nat.reduceLT]
  refine callQ_self ?_ (hc2 n 0 (IntKind.i64.wrap (g.1 - 1))) ?_
  ·exact rfl
  cases hw : isIn n 0 (IntKind.i64.wrap (g.1 - 1))
  ·simp +contextual -implicitDefEqProofs only [bN, go_sem, eB, ↓reduceIte, Nat.reduceEqDiff]
   exact ⟨D.Le.sc_eq (by rw [(hv.trans (if_pos (.inr (.inr (by simp [formOk, hk, hw])))))]; rfl), D.Le.sc_eq (by rw [(hv.trans (if_pos (.inr (.inr (by simp [formOk, hk, hw])))))]; rfl)⟩
  simp +contextual -implicitDefEqProofs only [lM, Int.reduceBEq, bT, go_sem, eB, ↓reduceIte, Nat.reduceEqDiff, Nat.reduceAdd, Nat.reduceLeDiff, Nat.reduceLT]
  have hF : formOk g 3 n ks = true := by simp [formOk, hk, hw]
  have hne : ¬ (N = 0 ∨ d = 0 ∨ formOk g 3 n ks = false) := by rw [hF]; simp; omega
  rw [hv, if_neg hne]
  rw [wrap_i64 (x := N - 1) (by omega) (by omega)]
  refine vc_on (α := Nat × Int) [2, 8, 9, 11, 12, 13, 68, 69, 70, 71, 72, 73, 74, 75, 76, 77, 78, 79, 80, 81, 82, 83, 84] (fun x => [(68, .im none (.sc (.int .i64 x.1))), (2, .im none (.sc (.int .i64 x.2)))]) (fun x => x.1 ≤ ks.length ∧ 0 ≤ x.2 ∧ x.2 ≤ N ∧ shEs g (ks.drop x.1) x.2 (d - 1) = shEs g ks (N - 1) (d - 1)) (fun x => ks.length - x.1) (0, N - 1) (by simp only [subEnv, go_sem, ↓reduceIte, Nat.reduceEqDiff]; simp) ⟨Nat.zero_le _, by simp only; omega, by simp only; omega, rfl⟩ ?_
  rintro ⟨i, m⟩ j
  simp only at j
  obtain ⟨j1, j2, j3, j4⟩ := j
  by_cases hi : i < ks.length
  ·have e1 := at_map (f := eE) hi
   rw [shEs_step hi] at j4
   cases n1 : (eE ks[i]).noPtr
   all_goals
    simp +contextual -implicitDefEqProofs only [e1, hi, encE.sub, eE_size, eE_isAg, iL, lM, iN, Nat.zero_lt_one, n1, bne, bN, bU, go_sem, ↓reduceIte, Nat.reduceEqDiff, Nat.reduceAdd, Nat.reduceLeDiff, Nat.reduceBEq]
    rw [wrap_i64 (x := d - 1) (by omega) (by omega)]
    refine callQ_self ?_ (ih ks[i] (List.getElem_mem _) m (d - 1) j2 (by omega) (by omega) (by omega)) ?_
    ·exact rfl
    cases hx : shE g ks[i] m (d - 1) with
    | none =>
     rw [hx] at j4
     simp +contextual -implicitDefEqProofs only [Option.getD_none, Option.isSome_none, bN, go_sem, eI, eB, ↓reduceIte, Nat.reduceEqDiff, Nat.reduceAdd, Nat.reduceLT]
     exact ⟨D.Le.sc_eq (by rw [← j4]; rfl), D.Le.sc_eq (by rw [← j4]; rfl)⟩
    | some q =>
     rw [hx] at j4
     have hq := shE_some j2 (by omega) hx
     simp +contextual -implicitDefEqProofs only [Option.getD_some, Option.isSome_some, bT, go_sem, eI, eB, ↓reduceIte, Nat.reduceEqDiff, Nat.reduceAdd, Nat.reduceLT]
     rw [wrap_i64 (by omega) (by omega)]
     exact ⟨(i + 1, q), ⟨by simp only; omega, hq.1, by simp only; omega, j4⟩, by simp only; omega, Ent.delEnv 11 (by simp only [go_sem, ↓reduceIte, Nat.reduceEqDiff, killU, U.kill]) (by simp only [subEnv, go_sem, ↓reduceIte, Nat.reduceEqDiff, Nat.reduceBEq, killE, AV.refs]; simp)⟩
  ·simp +contextual -implicitDefEqProofs only [hi, iL, go_sem, ↓reduceIte, Nat.reduceEqDiff]
   rw [List.drop_eq_nil_of_le (by omega), shEs] at j4
   exact ⟨D.Le.sc_eq (by rw [← j4]; rfl), D.Le.sc_eq (by rw [← j4]; rfl)⟩
 have b3 : (k == 3) = false := by simpa using c3
 by_cases c4 : k = 4
 ·subst c4
  simp +contextual -implicitDefEqProofs only [hk, lM, Int.reduceBEq, bE, bne, bT, go_sem, eI, ↓reduceIte, Nat.reduceEqDiff, Nat.reduceAdd, Nat.reduceLeDiff, Nat.reduceLT]
  refine callQ_self ?_ (hc2 n 0 (IntKind.i64.wrap (g.2 - 1))) ?_
  ·exact rfl
  cases hw : isIn n 0 (IntKind.i64.wrap (g.2 - 1))
  ·simp +contextual -implicitDefEqProofs only [bN, go_sem, eB, ↓reduceIte, Nat.reduceEqDiff]
   exact ⟨D.Le.sc_eq (by rw [(hv.trans (if_pos (.inr (.inr (by simp [formOk, hk, hw])))))]; rfl), D.Le.sc_eq (by rw [(hv.trans (if_pos (.inr (.inr (by simp [formOk, hk, hw])))))]; rfl)⟩
  simp +contextual -implicitDefEqProofs only [lM, Int.reduceBEq, bT, go_sem, eB, ↓reduceIte, Nat.reduceEqDiff, Nat.reduceAdd, Nat.reduceLeDiff, Nat.reduceLT]
  have hF : formOk g 4 n ks = true := by simp [formOk, hk, hw]
  have hne : ¬ (N = 0 ∨ d = 0 ∨ formOk g 4 n ks = false) := by rw [hF]; simp; omega
  rw [hv, if_neg hne]
  rw [wrap_i64 (x := N - 1) (by omega) (by omega)]
  refine vc_on (α := Nat × Int) [2, 8, 9, 11, 12, 13, 68, 69, 70, 71, 72, 73, 74, 75, 76, 77, 78, 79, 80, 81, 82, 83, 84] (fun x => [(68, .im none (.sc (.int .i64 x.1))), (2, .im none (.sc (.int .i64 x.2)))]) (fun x => x.1 ≤ ks.length ∧ 0 ≤ x.2 ∧ x.2 ≤ N ∧ shEs g (ks.drop x.1) x.2 (d - 1) = shEs g ks (N - 1) (d - 1)) (fun x => ks.length - x.1) (0, N - 1) (by simp only [subEnv, go_sem, ↓reduceIte, Nat.reduceEqDiff]; simp) ⟨Nat.zero_le _, by simp only; omega, by simp only; omega, rfl⟩ ?_
  rintro ⟨i, m⟩ j
  simp only at j
  obtain ⟨j1, j2, j3, j4⟩ := j
  by_cases hi : i < ks.length
  ·have e1 := at_map (f := eE) hi
   rw [shEs_step hi] at j4
   cases n1 : (eE ks[i]).noPtr
   all_goals
    simp +contextual -implicitDefEqProofs only [e1, hi, encE.sub, eE_size, eE_isAg, iL, lM, iN, Nat.zero_lt_one, n1, bne, bN, bU, go_sem, ↓reduceIte, Nat.reduceEqDiff, Nat.reduceAdd, Nat.reduceLeDiff, Nat.reduceBEq]
    rw [wrap_i64 (x := d - 1) (by omega) (by omega)]
    refine callQ_self ?_ (ih ks[i] (List.getElem_mem _) m (d - 1) j2 (by omega) (by omega) (by omega)) ?_
    ·exact rfl
    cases hx : shE g ks[i] m (d - 1) with
    | none =>
     rw [hx] at j4
     simp +contextual -implicitDefEqProofs only [Option.getD_none, Option.isSome_none, bN, go_sem, eI, eB, ↓reduceIte, Nat.reduceEqDiff, Nat.reduceAdd, Nat.reduceLT]
     exact ⟨D.Le.sc_eq (by rw [← j4]; rfl), D.Le.sc_eq (by rw [← j4]; rfl)⟩
    | some q =>
     rw [hx] at j4
     have hq := shE_some j2 (by omega) hx
     simp +contextual -implicitDefEqProofs only [Option.getD_some, Option.isSome_some, bT, go_sem, eI, eB, ↓reduceIte, Nat.reduceEqDiff, Nat.reduceAdd, Nat.reduceLT]
     rw [wrap_i64 (by omega) (by omega)]
     exact ⟨(i + 1, q), ⟨by simp only; omega, hq.1, by simp only; omega, j4⟩, by simp only; omega, Ent.delEnv 11 (by simp only [go_sem, ↓reduceIte, Nat.reduceEqDiff, killU, U.kill]) (by simp only [subEnv, go_sem, ↓reduceIte, Nat.reduceEqDiff, Nat.reduceBEq, killE, AV.refs]; simp)⟩
  ·simp +contextual -implicitDefEqProofs only [hi, iL, go_sem, ↓reduceIte, Nat.reduceEqDiff]
   rw [List.drop_eq_nil_of_le (by omega), shEs] at j4
   exact ⟨D.Le.sc_eq (by rw [← j4]; rfl), D.Le.sc_eq (by rw [← j4]; rfl)⟩
 have b4 : (k == 4) = false := by simpa using c4
 cases hn : (n == 0)
 ·simp +contextual -implicitDefEqProofs only [hk, b3, b4, hn, lM, bne, bT, bN, go_sem, eI, ↓reduceIte, Nat.reduceEqDiff, Nat.reduceAdd, Nat.reduceLeDiff, Nat.reduceLT]
  exact ⟨D.Le.sc_eq (by rw [(hv.trans (if_pos (.inr (.inr (by simp [formOk, hk, hn, c3, c4])))))]; rfl), D.Le.sc_eq (by rw [(hv.trans (if_pos (.inr (.inr (by simp [formOk, hk, hn, c3, c4])))))]; rfl)⟩
 by_cases c5 : k = 5
 ·subst c5
  have hlen : ks.length = 1 := by have : (1 : Int) = ks.length := hk'; omega
  have h0 : 0 < ks.length := by omega
  have e0 : D.at (ks.map eE) 0 = eE ks[0] := at_map h0
  have hks : ks = [ks[0]] := by
   match ks, hlen with
   | [x], _ => rfl
  have d0 : (0 : Int) < (ks.length : Int) := by omega
  simp +contextual -implicitDefEqProofs only [hk, hn, e0, d0, encE.sub, eE_size, eE_isAg, lM, Int.reduceBEq, bE, bne, bT, go_sem, eI, ↓reduceIte, Nat.reduceEqDiff, Nat.reduceAdd, Nat.reduceLeDiff, Nat.reduceLT]
  have hh := headC_get h0
  refine ⟨Int.le_refl 0, callQ_self ?_ (hc3 ks[0]) ?_⟩
  ·exact rfl
  cases hc : condE ks[0]
  ·rw [hc] at hh
   simp +contextual -implicitDefEqProofs only [bN, go_sem, eB, ↓reduceIte, Nat.reduceEqDiff]
   exact ⟨D.Le.sc_eq (by rw [(hv.trans (if_pos (.inr (.inr (by simp [formOk, hk, hn, hh])))))]; rfl), D.Le.sc_eq (by rw [(hv.trans (if_pos (.inr (.inr (by simp [formOk, hk, hn, hh])))))]; rfl)⟩
  rw [hc] at hh
  simp +contextual -implicitDefEqProofs only [lM, bT, go_sem, eB, ↓reduceIte, Nat.reduceEqDiff, Nat.reduceAdd, Nat.reduceLeDiff, Nat.reduceLT]
  have hF : formOk g 5 n ks = true := by simp [formOk, hk, hn, hh]
  have hne : ¬ (N = 0 ∨ d = 0 ∨ formOk g 5 n ks = false) := by rw [hF]; simp; omega
  rw [hv, if_neg hne]
  rw [wrap_i64 (x := N - 1) (by omega) (by omega)]
  refine vc_on (α := Nat × Int) [2, 8, 9, 11, 12, 13, 68, 69, 70, 71, 72, 73, 74, 75, 76, 77, 78, 79, 80, 81, 82, 83, 84] (fun x => [(68, .im none (.sc (.int .i64 x.1))), (2, .im none (.sc (.int .i64 x.2)))]) (fun x => x.1 ≤ ks.length ∧ 0 ≤ x.2 ∧ x.2 ≤ N ∧ shEs g (ks.drop x.1) x.2 (d - 1) = shEs g ks (N - 1) (d - 1)) (fun x => ks.length - x.1) (0, N - 1) (by simp only [subEnv, go_sem, ↓reduceIte, Nat.reduceEqDiff]; simp) ⟨Nat.zero_le _, by simp only; omega, by simp only; omega, rfl⟩ ?_
  rintro ⟨i, m⟩ j
  simp only at j
  obtain ⟨j1, j2, j3, j4⟩ := j
  by_cases hi : i < ks.length
  ·have e1 := at_map (f := eE) hi
   rw [shEs_step hi] at j4
   cases n1 : (eE ks[i]).noPtr
   all_goals
    simp +contextual -implicitDefEqProofs only [e1, hi, encE.sub, eE_size, eE_isAg, iL, lM, iN, Nat.zero_lt_one, n1, bne, bN, bU, go_sem, ↓reduceIte, Nat.reduceEqDiff, Nat.reduceAdd, Nat.reduceLeDiff, Nat.reduceBEq]
    rw [wrap_i64 (x := d - 1) (by omega) (by omega)]
    refine callQ_self ?_ (ih ks[i] (List.getElem_mem _) m (d - 1) j2 (by omega) (by omega) (by omega)) ?_
    ·exact rfl
    cases hx : shE g ks[i] m (d - 1) with
    | none =>
     rw [hx] at j4
     simp +contextual -implicitDefEqProofs only [Option.getD_none, Option.isSome_none, bN, go_sem, eI, eB, ↓reduceIte, Nat.reduceEqDiff, Nat.reduceAdd, Nat.reduceLT]
     exact ⟨D.Le.sc_eq (by rw [← j4]; rfl), D.Le.sc_eq (by rw [← j4]; rfl)⟩
    | some q =>
     rw [hx] at j4
     have hq := shE_some j2 (by omega) hx
     simp +contextual -implicitDefEqProofs only [Option.getD_some, Option.isSome_some, bT, go_sem, eI, eB, ↓reduceIte, Nat.reduceEqDiff, Nat.reduceAdd, Nat.reduceLT]
     rw [wrap_i64 (by omega) (by omega)]
     exact ⟨(i + 1, q), ⟨by simp only; omega, hq.1, by simp only; omega, j4⟩, by simp only; omega, Ent.delEnv 11 (by simp only [go_sem, ↓reduceIte, Nat.reduceEqDiff, killU, U.kill]) (by simp only [subEnv, go_sem, ↓reduceIte, Nat.reduceEqDiff, Nat.reduceBEq, killE, AV.refs]; simp)⟩
  ·simp +contextual -implicitDefEqProofs only [hi, iL, go_sem, ↓reduceIte, Nat.reduceEqDiff]
   rw [List.drop_eq_nil_of_le (by omega), shEs] at j4
   exact ⟨D.Le.sc_eq (by rw [← j4]; rfl), D.Le.sc_eq (by rw [← j4]; rfl)⟩
 have b5 : (k == 5) = false := by simpa using c5
 simp +contextual -implicitDefEqProofs only [hk, b3, b4, b5, hn, lM, bne, bT, go_sem, eI, ↓reduceIte, Nat.reduceEqDiff, Nat.reduceAdd, Nat.reduceLeDiff, Nat.reduceLT]
 have hF : formOk g k n ks = true := by simp [formOk, hk, hn, c3, c4, c5]
 have hne : ¬ (N = 0 ∨ d = 0 ∨ formOk g k n ks = false) := by rw [hF]; simp; omega
 rw [hv, if_neg hne]
 rw [wrap_i64 (x := N - 1) (by omega) (by omega)]
 refine vc_on (α := Nat × Int) [2, 8, 9, 11, 12, 13, 68, 69, 70, 71, 72, 73, 74, 75, 76, 77, 78, 79, 80, 81, 82, 83, 84] (fun x => [(68, .im none (.sc (.int .i64 x.1))), (2, .im none (.sc (.int .i64 x.2)))]) (fun x => x.1 ≤ ks.length ∧ 0 ≤ x.2 ∧ x.2 ≤ N ∧ shEs g (ks.drop x.1) x.2 (d - 1) = shEs g ks (N - 1) (d - 1)) (fun x => ks.length - x.1) (0, N - 1) (by simp only [subEnv, go_sem, ↓reduceIte, Nat.reduceEqDiff]; simp) ⟨Nat.zero_le _, by simp only; omega, by simp only; omega, rfl⟩ ?_
 rintro ⟨i, m⟩ j
 simp only at j
 obtain ⟨j1, j2, j3, j4⟩ := j
 by_cases hi : i < ks.length
 ·have e1 := at_map (f := eE) hi
  rw [shEs_step hi] at j4
  cases n1 : (eE ks[i]).noPtr
  all_goals
   simp +contextual -implicitDefEqProofs only [e1, hi, encE.sub, eE_size, eE_isAg, iL, lM, iN, Nat.zero_lt_one, n1, bne, bN, bU, go_sem, ↓reduceIte, Nat.reduceEqDiff, Nat.reduceAdd, Nat.reduceLeDiff, Nat.reduceBEq]
   rw [wrap_i64 (x := d - 1) (by omega) (by omega)]
   refine callQ_self ?_ (ih ks[i] (List.getElem_mem _) m (d - 1) j2 (by omega) (by omega) (by omega)) ?_
   ·exact rfl
   cases hx : shE g ks[i] m (d - 1) with
   | none =>
    rw [hx] at j4
    simp +contextual -implicitDefEqProofs only [Option.getD_none, Option.isSome_none, bN, go_sem, eI, eB, ↓reduceIte, Nat.reduceEqDiff, Nat.reduceAdd, Nat.reduceLT]
    exact ⟨D.Le.sc_eq (by rw [← j4]; rfl), D.Le.sc_eq (by rw [← j4]; rfl)⟩
   | some q =>
    rw [hx] at j4
    have hq := shE_some j2 (by omega) hx
    simp +contextual -implicitDefEqProofs only [Option.getD_some, Option.isSome_some, bT, go_sem, eI, eB, ↓reduceIte, Nat.reduceEqDiff, Nat.reduceAdd, Nat.reduceLT]
    rw [wrap_i64 (by omega) (by omega)]
    exact ⟨(i + 1, q), ⟨by simp only; omega, hq.1, by simp only; omega, j4⟩, by simp only; omega, Ent.delEnv 11 (by simp only [go_sem, ↓reduceIte, Nat.reduceEqDiff, killU, U.kill]) (by simp only [subEnv, go_sem, ↓reduceIte, Nat.reduceEqDiff, Nat.reduceBEq, killE, AV.refs]; simp)⟩
 ·simp +contextual -implicitDefEqProofs only [hi, iL, go_sem, ↓reduceIte, Nat.reduceEqDiff]
  rw [List.drop_eq_nil_of_le (by omega), shEs] at j4
  exact ⟨D.Le.sc_eq (by rw [← j4]; rfl), D.Le.sc_eq (by rw [← j4]; rfl)⟩
end Go.Ax
namespace Go.Ax
set_option maxRecDepth 20000
set_option maxHeartbeats 4000000
theorem shE_ok (g : Int × Int) (e : Ex) : (shE g e 200 40).isSome = okE g e := by
 rw [shE_iff g e 200 40 (by omega) (by omega)]
 unfold ok3 okE
 by_cases h1 : sizeE e ≤ 200 <;> by_cases h2 : depthE e ≤ 40 <;> cases h3 : treeE g e
 all_goals simp [h1, h2]
 all_goals omega
def k_isExpr (f1 : Nat) : RC := (.seq (.reg false [⟨none, .box 2 2 (.t 0)⟩, ⟨none, .box 3 3 (.t 1)⟩, ⟨none, .mv 4 (.c (.sc (.bool false)))⟩]) ((.seq (.reg false [⟨none, .ld 8 true 2 (.t 2)⟩, ⟨none, .ld 9 true 3 (.t 3)⟩, ⟨none, .call (some 10) f1 [(.t 8), (.t 9), (.c (.sc (.int .i64 200))), (.c (.sc (.int .i64 40)))]⟩, ⟨none, .mv 7 (.t 10)⟩, ⟨none, .ext 11 (.t 7) 0⟩, ⟨none, .ext 12 (.t 7) 1⟩, ⟨none, .mv 5 (.t 11)⟩, ⟨none, .mv 6 (.t 12)⟩]) ((.seq (.reg false [⟨none, .mv 13 (.t 6)⟩, ⟨none, .mv 4 (.t 13)⟩]) (.ret))))))
def K_isExpr (P : Program) (f : Nat) : Prop := ∀ (g : Int × Int) (e : Ex), AF P f [eG g, eE e] (.own (eB (okE g e)))
theorem a_isExpr {P : Program} (hm : P.follows .mixedOrders = true) {g f1 : Nat} (hr : resF P g = some (14, k_isExpr f1, [.t 4])) (hc1 : K_shaped P f1) : K_isExpr P g := by
 intro g e
 rw [eE_eta]
 refine af_of_res hr hm rfl fun hb => ?_
 simp +contextual -implicitDefEqProofs only [k_isExpr, eG, go_sem, eI, eB, ↓reduceIte, Nat.reduceEqDiff, Nat.reduceAdd, Nat.reduceLeDiff, Nat.reduceBneDiff, Nat.reduceLT]
 refine callQ_self (ds := [eG g, eE e, eI 200, eI 40]) ?_ (hc1 g e 200 40 (by omega) (by omega) (by omega) (by omega)) ?_
 ·rw [eE_eta]; exact rfl
 rw [shE_ok]
 simp +contextual -implicitDefEqProofs only [go_sem, eI, eB, ↓reduceIte, Nat.reduceEqDiff, Nat.reduceAdd, Nat.reduceLT]

end Go.Ax
namespace Go.Ax
variable {P : Program}

end Go.Ax
namespace Go.Ax
set_option maxRecDepth 20000
set_option maxHeartbeats 4000000

def eU (v : Int) : D := .sc (.int .u8 v)

def srcD (nn : Option Bool) (c : List Int) (a sd : Int) : D := .ag [.ls nn 1 (c.map eU), .sc (.int .i64 a), .sc (.int .u64 sd)]
def uS (nn : Option Bool) (c : List Int) (a sd : Int) : U := .ar false none 3 [srcD nn c a sd]
def srcOk (c : List Int) : Prop := (∀ v ∈ c, 0 ≤ v ∧ v < 256) ∧ c.length ≤ 1000000000
def nb (c : List Int) (a : Int) : Int := if a < c.length then c.getD a.toNat 0 else 0
def nsd (c : List Int) (a sd : Int) : Int := IntKind.u64.wrap (IntKind.u64.wrap (IntKind.u64.wrap (sd * 6364136223846793005) + IntKind.u64.wrap (nb c a)) + 1442695040888963407)
def nlow (sd : Int) : Int := IntKind.i64.wrap (IntKind.u64.wrap ((BitVec.ofInt IntKind.u64.bits (sd.fdiv (2 ^ (min (40 : Int).toNat IntKind.u64.bits))) &&& BitVec.ofInt IntKind.u64.bits 255).toNat : Nat))
def nxS (c : List Int) (a sd : Int) : Int := if a < c.length then nb c a else nlow (nsd c a sd)
theorem nb_bd {c : List Int} {a : Int} (h : srcOk c) : 0 ≤ nb c a ∧ nb c a < 256 := by
 unfold nb
 split
 ·next h1 =>
  by_cases h2 : a.toNat < c.length
  ·rw [List.getD_eq_getElem?_getD, List.getElem?_eq_getElem h2]
   exact h.1 _ (List.getElem_mem h2)
  ·simp [List.getD_eq_getElem?_getD, List.getElem?_eq_none (show c.length ≤ a.toNat by omega)]
 ·omega
theorem nlow_bd (sd : Int) : 0 ≤ nlow sd ∧ nlow sd < 256 := by
 unfold nlow
 rw [BitVec.toNat_and]
 have h : (BitVec.ofInt IntKind.u64.bits (sd.fdiv (2 ^ (min (40 : Int).toNat IntKind.u64.bits)))).toNat &&& (BitVec.ofInt IntKind.u64.bits 255).toNat ≤ 255 := Nat.le_trans Nat.and_le_right (by decide)
 generalize (BitVec.ofInt IntKind.u64.bits (sd.fdiv (2 ^ (min (40 : Int).toNat IntKind.u64.bits)))).toNat &&& (BitVec.ofInt IntKind.u64.bits 255).toNat = m at h
 have e1 : IntKind.u64.wrap (m : Int) = m := by simp only [IntKind.wrap, show IntKind.u64.signed = false from rfl, Bool.false_and, bF, if_false, show IntKind.u64.bits = 64 from rfl]; omega
 rw [e1, wrap_i64 (by omega) (by omega)]
 omega
theorem nxS_bd {c : List Int} {a sd : Int} (h : srcOk c) : 0 ≤ nxS c a sd ∧ nxS c a sd < 256 := by
 unfold nxS
 split
 ·exact nb_bd h
 ·exact nlow_bd _

def k_srcNext : RC := (.seq (.reg false [⟨none, .mv 2 (.c (.sc (.int .i64 0)))⟩]) ((.seq (.reg false [⟨none, .mv 3 (.c (.sc (.int .i64 0)))⟩]) ((.seq ((.seq (.reg true [⟨none, .mv 4 (.t 0)⟩, ⟨none, .nck 5 (.t 4)⟩, ⟨none, .fa 6 1 (.t 5)⟩, ⟨none, .ld 7 false 1 (.t 6)⟩, ⟨none, .mv 8 (.t 0)⟩, ⟨none, .nck 9 (.t 8)⟩, ⟨none, .fa 10 0 (.t 9)⟩, ⟨none, .ld 11 false 1 (.t 10)⟩, ⟨none, .len 12 (.t 11)⟩, ⟨none, .bin 13 .lss (.t 7) (.t 12)⟩]) (.cond (.t 13) (.reg true [⟨none, .mv 14 (.t 0)⟩, ⟨none, .nck 15 (.t 14)⟩, ⟨none, .fa 16 0 (.t 15)⟩, ⟨none, .ld 17 false 1 (.t 16)⟩, ⟨none, .mv 18 (.t 0)⟩, ⟨none, .nck 19 (.t 18)⟩, ⟨none, .fa 20 1 (.t 19)⟩, ⟨none, .ld 21 false 1 (.t 20)⟩, ⟨none, .ia 22 1 (.t 17) (.t 21)⟩, ⟨none, .ld 23 false 1 (.t 22)⟩, ⟨none, .cvt 24 .i64 (.t 23)⟩, ⟨none, .mv 3 (.t 24)⟩]) (.skip)))) ((.seq (.reg false [⟨none, .mv 25 (.t 0)⟩, ⟨none, .nck 26 (.t 25)⟩, ⟨none, .fa 27 1 (.t 26)⟩, ⟨none, .ld 28 false 1 (.t 27)⟩, ⟨none, .bin 29 .add (.t 28) (.c (.sc (.int .i64 1)))⟩, ⟨none, .nck 30 (.t 25)⟩, ⟨none, .fa 31 1 (.t 30)⟩, ⟨none, .st 1 (.t 31) (.t 29)⟩]) ((.seq (.reg false [⟨none, .mv 32 (.t 0)⟩, ⟨none, .mv 33 (.t 0)⟩, ⟨none, .nck 34 (.t 33)⟩, ⟨none, .fa 35 2 (.t 34)⟩, ⟨none, .ld 36 false 1 (.t 35)⟩, ⟨none, .bin 37 .mul (.t 36) (.c (.sc (.int .u64 6364136223846793005)))⟩, ⟨none, .mv 38 (.t 3)⟩, ⟨none, .cvt 39 .u64 (.t 38)⟩, ⟨none, .bin 40 .add (.t 37) (.t 39)⟩, ⟨none, .bin 41 .add (.t 40) (.c (.sc (.int .u64 1442695040888963407)))⟩, ⟨none, .nck 42 (.t 32)⟩, ⟨none, .fa 43 2 (.t 42)⟩, ⟨none, .st 1 (.t 43) (.t 41)⟩]) ((.seq ((.seq (.reg true [⟨none, .mv 44 (.t 0)⟩, ⟨none, .nck 45 (.t 44)⟩, ⟨none, .fa 46 1 (.t 45)⟩, ⟨none, .ld 47 false 1 (.t 46)⟩, ⟨none, .mv 48 (.t 0)⟩, ⟨none, .nck 49 (.t 48)⟩, ⟨none, .fa 50 0 (.t 49)⟩, ⟨none, .ld 51 false 1 (.t 50)⟩, ⟨none, .len 52 (.t 51)⟩, ⟨none, .bin 53 .leq (.t 47) (.t 52)⟩]) (.cond (.t 53) ((.seq (.reg false [⟨none, .mv 54 (.t 3)⟩, ⟨none, .mv 2 (.t 54)⟩]) (.ret))) (.skip)))) ((.seq (.reg false [⟨none, .mv 55 (.t 0)⟩, ⟨none, .nck 56 (.t 55)⟩, ⟨none, .fa 57 2 (.t 56)⟩, ⟨none, .ld 58 false 1 (.t 57)⟩, ⟨none, .bin 59 .shr (.t 58) (.c (.sc (.int .u64 40)))⟩, ⟨none, .bin 60 .and (.t 59) (.c (.sc (.int .u64 255)))⟩, ⟨none, .cvt 61 .i64 (.t 60)⟩, ⟨none, .mv 2 (.t 61)⟩]) (.ret))))))))))))))
def K_srcNext (P : Program) (fno : Nat) : Prop := ∀ (nn : Option Bool) (c : List Int) (a sd : Int), srcOk c → 0 ≤ a → a ≤ 1000000000 → AFW P fno [uS nn c a sd] [.pw 3000000000 0 0] [uS nn c (a + 1) (nsd c a sd)] (.own (.sc (.int .i64 (nxS c a sd))))
theorem a_srcNext {P : Program} (hm : P.follows .mixedOrders = true) {g : Nat} (hr : resF P g = some (62, k_srcNext, [.t 2])) : K_srcNext P g := by
 intro nn c a sd hc h0 hA
 have hn := nb_bd (a := a) hc
 have hlen := hc.2
 have hw := wrap_i64 (x := a + 1) (by omega) (by omega)
 refine afw_of_res (wv := .no) hr hm rfl rfl rfl fun hb ha => ?_
 by_cases h1 : a < c.length
 ·have ea : nb c a = c.getD a.toNat 0 := by simp [nb, h1]
  have hlt : a.toNat < c.length := by omega
  have e2 : D.at (c.map eU) a.toNat = .sc (.int .u8 (nb c a)) := by rw [at_map hlt, ea]; simp [eU, hlt]
  have hcv := wrap_i64 (x := nb c a) (by omega) (by omega)
  have h2 : a + 1 ≤ c.length := by omega
  have ex : nxS c a sd = nb c a := by simp [nxS, h1]
  rw [ex]
  simp +contextual -implicitDefEqProofs only [k_srcNext, uS, srcD, h1, h0, h2, hw, e2, hcv, D.put, D.cells, D.size, D.isAg, D.sub, modeOf, noPtrs, lM, go_sem, ↓reduceIte, Nat.reduceEqDiff, Nat.reduceAdd, Nat.reduceLeDiff, Nat.reduceLT]
  exact rfl
 ·have ea : nb c a = 0 := by simp [nb, h1]
  have h2 : ¬ a + 1 ≤ c.length := by omega
  have ex : nxS c a sd = nlow (nsd c a sd) := by simp [nxS, h1]
  have en : nsd c a sd = IntKind.u64.wrap (IntKind.u64.wrap (IntKind.u64.wrap (sd * 6364136223846793005) + IntKind.u64.wrap 0) + 1442695040888963407) := by unfold nsd; rw [ea]
  rw [ex, en]
  simp +contextual -implicitDefEqProofs only [k_srcNext, uS, srcD, h1, h2, hw, D.put, D.cells, D.size, D.isAg, D.sub, modeOf, noPtrs, lM, go_sem, ↓reduceIte, Nat.reduceEqDiff, Nat.reduceAdd, Nat.reduceLeDiff, Nat.reduceLT]
  exact ⟨by decide, D.Le.refl _⟩

def k_srcPick (f1 : Nat) : RC := (.seq (.reg false [⟨none, .mv 4 (.c (.sc (.int .i64 0)))⟩]) ((.seq ((.seq (.reg false [⟨none, .mv 6 (.t 1)⟩, ⟨none, .bin 7 .leq (.t 6) (.c (.sc (.int .i64 1)))⟩]) (.cond (.t 7) ((.seq (.reg false [⟨none, .mv 4 (.c (.sc (.int .i64 0)))⟩]) (.ret))) (.skip)))) ((.seq (.reg false [⟨none, .mv 8 (.t 0)⟩, ⟨none, .wcl (some 9) f1 [(.t 8)]⟩, ⟨none, .mv 5 (.t 9)⟩]) ((.seq ((.seq (.reg false [⟨none, .mv 10 (.t 1)⟩, ⟨none, .bin 11 .gtr (.t 10) (.c (.sc (.int .i64 200)))⟩]) (.cond (.t 11) (.reg false [⟨none, .mv 12 (.t 5)⟩, ⟨none, .bin 13 .mul (.t 12) (.c (.sc (.int .i64 256)))⟩, ⟨none, .mv 14 (.t 0)⟩, ⟨none, .wcl (some 15) f1 [(.t 14)]⟩, ⟨none, .bin 16 .add (.t 13) (.t 15)⟩, ⟨none, .mv 5 (.t 16)⟩]) (.skip)))) ((.seq (.reg false [⟨none, .mv 17 (.t 5)⟩, ⟨none, .mv 18 (.t 1)⟩, ⟨none, .bin 19 .rem (.t 17) (.t 18)⟩, ⟨none, .mv 4 (.t 19)⟩]) (.ret))))))))))
def K_srcPick (P : Program) (fno : Nat) : Prop := ∀ (nn : Option Bool) (c : List Int) (a sd n : Int), srcOk c → 0 ≤ a → a ≤ 500000000 → ∃ a' sd' x, a ≤ a' ∧ a' ≤ a + 2 ∧ 0 ≤ x ∧ (n ≤ 1 → x = 0) ∧ (1 < n → x < n) ∧ AFW P fno [uS nn c a sd] [.pw 3000000000 0 0, .im none (eI n)] [uS nn c a' sd'] (.own (eI x))
theorem a_srcPick {P : Program} (hm : P.follows .mixedOrders = true) {g f1 : Nat} (hr : resF P g = some (20, k_srcPick f1, [.t 4])) (hc1 : K_srcNext P f1) : K_srcPick P g := by
 intro nn c a sd n hc h0 hA
 by_cases h1 : n ≤ 1
 ·refine ⟨a, sd, 0, by omega, by omega, by omega, fun _ => rfl, by omega, ?_⟩
  refine afw_of_res (wv := .no) hr hm rfl rfl rfl fun hb ha => ?_
  simp +contextual -implicitDefEqProofs only [k_srcPick, uS, srcD, h1, eI, go_sem, ↓reduceIte, Nat.reduceEqDiff, Nat.reduceAdd]
 have b1 := nxS_bd (a := a) (sd := sd) hc
 by_cases h2 : n > 200
 ·have b2 := nxS_bd (a := a + 1) (sd := nsd c a sd) hc
  have w1 := wrap_i64 (x := nxS c a sd * 256) (by omega) (by omega)
  have w2 := wrap_i64 (x := nxS c a sd * 256 + nxS c (a + 1) (nsd c a sd)) (by omega) (by omega)
  have hn0 : n ≠ 0 := by omega
  refine ⟨a + 1 + 1, nsd c (a + 1) (nsd c a sd), (nxS c a sd * 256 + nxS c (a + 1) (nsd c a sd)).tmod n, by omega, by omega, Int.tmod_nonneg _ (by omega), by omega, fun _ => Int.tmod_lt_of_pos _ (by omega), ?_⟩
  refine afw_of_res (wv := .no) hr hm rfl rfl rfl fun hb ha => ?_
  simp +contextual -implicitDefEqProofs only [k_srcPick, uS, srcD, h1, eI, go_sem, ↓reduceIte, Nat.reduceEqDiff, Nat.reduceAdd]
  refine wcl_self [3000000000] [] (by rfl) (by rfl) (by rfl) (hc1 nn c a sd hc h0 (by omega)) rfl (by simp [wOut, outU, uS, srcD, noPtrs, D.noPtr, shWL, AV.shW, posW, shUs, U.shW, St.unit, lu]) ?_
  simp +contextual -implicitDefEqProofs only [uS, srcD, h2, w1, go_sem, ↓reduceIte, Nat.reduceEqDiff]
  refine wcl_self [3000000000] [] (by rfl) (by rfl) (by rfl) (hc1 nn c (a + 1) (nsd c a sd) hc (by omega) (by omega)) rfl (by simp [wOut, outU, uS, srcD, noPtrs, D.noPtr, shWL, AV.shW, posW, shUs, U.shW, St.unit, lu]) ?_
  simp +contextual -implicitDefEqProofs only [uS, srcD, w2, go_sem, ↓reduceIte, Nat.reduceEqDiff]
  exact hn0
 ·have hn0 : n ≠ 0 := by omega
  refine ⟨a + 1, nsd c a sd, (nxS c a sd).tmod n, by omega, by omega, Int.tmod_nonneg _ (by omega), by omega, fun _ => Int.tmod_lt_of_pos _ (by omega), ?_⟩
  refine afw_of_res (wv := .no) hr hm rfl rfl rfl fun hb ha => ?_
  simp +contextual -implicitDefEqProofs only [k_srcPick, uS, srcD, h1, eI, go_sem, ↓reduceIte, Nat.reduceEqDiff, Nat.reduceAdd]
  refine wcl_self [3000000000] [] (by rfl) (by rfl) (by rfl) (hc1 nn c a sd hc h0 (by omega)) rfl (by simp [wOut, outU, uS, srcD, noPtrs, D.noPtr, shWL, AV.shW, posW, shUs, U.shW, St.unit, lu]) ?_
  simp +contextual -implicitDefEqProofs only [uS, srcD, h2, go_sem, ↓reduceIte, Nat.reduceEqDiff]
  exact hn0

def k_srcOne (f1 : Nat) : RC := (.seq (.reg false [⟨none, .mv 4 (.c (.sc (.bool false)))⟩]) ((.seq (.reg false [⟨none, .mv 5 (.t 0)⟩, ⟨none, .mv 6 (.t 1)⟩, ⟨none, .wcl (some 7) f1 [(.t 5), (.t 6)]⟩, ⟨none, .bin 8 .eql (.t 7) (.c (.sc (.int .i64 0)))⟩, ⟨none, .mv 4 (.t 8)⟩]) (.ret))))
def K_srcOne (P : Program) (fno : Nat) : Prop := ∀ (nn : Option Bool) (c : List Int) (a sd n : Int), srcOk c → 0 ≤ a → a ≤ 500000000 → ∃ a' sd' b, a ≤ a' ∧ a' ≤ a + 2 ∧ AFW P fno [uS nn c a sd] [.pw 3000000000 0 0, .im none (eI n)] [uS nn c a' sd'] (.own (eB b))
theorem a_srcOne {P : Program} (hm : P.follows .mixedOrders = true) {g f1 : Nat} (hr : resF P g = some (9, k_srcOne f1, [.t 4])) (hc1 : K_srcPick P f1) : K_srcOne P g := by
 intro nn c a sd n hc h0 hA
 obtain ⟨a', sd', x, p1, p2, p3, p4, p5, hP⟩ := hc1 nn c a sd n hc h0 hA
 refine ⟨a', sd', x == 0, p1, p2, ?_⟩
 refine afw_of_res (wv := .no) hr hm rfl rfl rfl fun hb ha => ?_
 simp +contextual -implicitDefEqProofs only [k_srcOne, uS, srcD, eI, go_sem, eB, ↓reduceIte, Nat.reduceEqDiff, Nat.reduceAdd]
 refine wcl_self [3000000000] [] (by rfl) (by rfl) (by rfl) hP rfl (by simp [wOut, outU, uS, srcD, noPtrs, D.noPtr, shWL, AV.shW, posW, shUs, U.shW, St.unit, lu]) ?_
 simp +contextual -implicitDefEqProofs only [uS, srcD, eI, go_sem, ↓reduceIte]

def k_l00From : RC := (.seq (.reg false [⟨none, .mv 2 (.c (.sc (.pointer none)))⟩]) ((.seq (.reg false [⟨none, .mv 3 (.t 0)⟩, ⟨none, .bld 4 (.ag [(.ls (some true) 1 []), (.sc (.int .i64 0)), (.sc (.int .u64 0))]) [(0, 1, (.t 3))]⟩, ⟨none, .box 5 3 (.t 4)⟩, ⟨none, .mv 2 (.t 5)⟩]) (.ret))))
def K_l00From (P : Program) (fno : Nat) : Prop := ∀ (nn : Option Bool) (c : List Int), AF P fno [.ls nn 1 (c.map eU)] (.bxs (srcD nn c 0 0))
theorem a_l00From {P : Program} (hm : P.follows .mixedOrders = true) {g : Nat} (hr : resF P g = some (6, k_l00From, [.t 2])) : K_l00From P g := by
 intro nn c
 refine af_of_res hr hm rfl fun hb => ?_
 simp +contextual -implicitDefEqProofs only [k_l00From, srcD, D.cells, D.size, D.sizeL, go_sem, ↓reduceIte, Nat.reduceEqDiff, Nat.reduceAdd, Nat.reduceLeDiff, Nat.reduceBneDiff, Nat.reduceLT, Nat.reduceSub]

def k_l01DrawSig (f1 : Nat) : RC := (.seq (.reg false [⟨none, .zer 2 2 (.ag [(.sc (.int .i64 0)), (.sc (.int .i64 0))])⟩]) ((.seq (.reg false [⟨none, .mv 4 (.t 0)⟩, ⟨none, .wcl (some 5) f1 [(.t 4), (.c (.sc (.int .i64 2)))]⟩, ⟨none, .bin 6 .add (.c (.sc (.int .i64 1))) (.t 5)⟩, ⟨none, .mv 7 (.t 0)⟩, ⟨none, .wcl (some 8) f1 [(.t 7), (.c (.sc (.int .i64 2)))]⟩, ⟨none, .bin 9 .add (.c (.sc (.int .i64 1))) (.t 8)⟩, ⟨none, .bld 10 (.ag [(.sc (.int .i64 0)), (.sc (.int .i64 0))]) [(0, 1, (.t 6)), (1, 1, (.t 9))]⟩, ⟨none, .zer 3 2 (.ag [(.sc (.int .i64 0)), (.sc (.int .i64 0))])⟩, ⟨none, .st 2 (.t 3) (.t 10)⟩]) ((.seq ((.seq (.reg false [⟨none, .mv 11 (.t 0)⟩, ⟨none, .wcl (some 12) f1 [(.t 11), (.c (.sc (.int .i64 12)))]⟩]) (.blk 0 ((.seq (.reg false [⟨none, .bin 14 .eql (.t 12) (.c (.sc (.int .i64 0)))⟩, ⟨none, .mv 13 (.t 14)⟩]) (.cond (.t 13) (.reg false [⟨none, .mv 15 (.t 0)⟩, ⟨none, .wcl (some 16) f1 [(.t 15), (.c (.sc (.int .i64 4)))]⟩, ⟨none, .fa 17 0 (.t 3)⟩, ⟨none, .st 1 (.t 17) (.t 16)⟩]) ((.seq (.reg false [⟨none, .bin 19 .eql (.t 12) (.c (.sc (.int .i64 1)))⟩, ⟨none, .mv 18 (.t 19)⟩]) (.cond (.t 18) (.reg false [⟨none, .mv 20 (.t 0)⟩, ⟨none, .wcl (some 21) f1 [(.t 20), (.c (.sc (.int .i64 5)))]⟩, ⟨none, .fa 22 1 (.t 3)⟩, ⟨none, .st 1 (.t 22) (.t 21)⟩]) (.skip)))))))))) ((.seq (.reg false [⟨none, .ld 23 true 2 (.t 3)⟩, ⟨none, .st 2 (.t 2) (.t 23)⟩]) (.ret))))))))
def K_l01DrawSig (P : Program) (fno : Nat) : Prop := ∀ (nn : Option Bool) (c : List Int) (a sd : Int), srcOk c → 0 ≤ a → a ≤ 400000000 → ∃ a' sd' g, a ≤ a' ∧ a' ≤ a + 8 ∧ okG g = true ∧ AFW P fno [uS nn c a sd] [.pw 3000000000 0 0] [uS nn c a' sd'] (.own (eG g))
theorem a_l01DrawSig {P : Program} (hm : P.follows .mixedOrders = true) {g f1 : Nat} (hr : resF P g = some (24, k_l01DrawSig f1, [.c 2 2 true])) (hc1 : K_srcPick P f1) : K_l01DrawSig P g := by
 intro nn c a sd hc h0 hA
 obtain ⟨a1, sd1, x1, p1, p2, p3, p4, p5, hP1⟩ := hc1 nn c a sd 2 hc h0 (by omega)
 obtain ⟨a2, sd2, x2, q1, q2, q3, q4, q5, hP2⟩ := hc1 nn c a1 sd1 2 hc (by omega) (by omega)
 obtain ⟨a3, sd3, x3, r1, r2, r3, r4, r5, hP3⟩ := hc1 nn c a2 sd2 12 hc (by omega) (by omega)
 have p5 := p5 (by omega)
 have q5 := q5 (by omega)
 have w1 := wrap_i64 (x := 1 + x1) (by omega) (by omega)
 have w2 := wrap_i64 (x := 1 + x2) (by omega) (by omega)
 by_cases h3 : x3 = 0
 ·have h3b : (x3 == 0) = true := by simp [h3]
  obtain ⟨a4, sd4, x4, s1, s2, s3, s4, s5, hP4⟩ := hc1 nn c a3 sd3 4 hc (by omega) (by omega)
  have s5 := s5 (by omega)
  refine ⟨a4, sd4, (x4, 1 + x2), by omega, by omega, by simp [okG, isIn]; omega, ?_⟩
  refine afw_of_res (wv := .no) hr hm rfl rfl rfl fun hb ha => ?_
  simp +contextual -implicitDefEqProofs only [k_l01DrawSig, uS, srcD, D.size, D.sizeL, go_sem, ↓reduceIte, Nat.reduceEqDiff, Nat.reduceAdd, Nat.reduceBneDiff, Nat.reduceLT]
  refine wcl_self [3000000000] [] (by rfl) (by rfl) (by rfl) hP1 rfl (by simp [wOut, outU, uS, srcD, noPtrs, D.noPtr, shWL, AV.shW, posW, shUs, U.shW, St.unit, lu]) ?_
  simp +contextual -implicitDefEqProofs only [uS, srcD, eI, w1, go_sem, ↓reduceIte, Nat.reduceEqDiff]
  refine wcl_self [3000000000] [] (by rfl) (by rfl) (by rfl) hP2 rfl (by simp [wOut, outU, uS, srcD, noPtrs, D.noPtr, shWL, AV.shW, posW, shUs, U.shW, St.unit, lu]) ?_
  simp +contextual -implicitDefEqProofs only [uS, srcD, eI, w2, D.put, D.cells, D.size, D.sizeL, D.isAg, modeOf, noPtrs, go_sem, ↓reduceIte, Nat.reduceEqDiff, Nat.reduceAdd, Nat.reduceLeDiff, Nat.reduceBneDiff, Nat.reduceLT, Nat.reduceSub]
  refine wcl_self [3000000000] [] (by rfl) (by rfl) (by rfl) hP3 rfl (by simp [wOut, outU, uS, srcD, noPtrs, D.noPtr, shWL, AV.shW, posW, shUs, U.shW, St.unit, lu]) ?_
  simp +contextual -implicitDefEqProofs only [uS, srcD, eI, eG, h3b, go_sem, ↓reduceIte, Nat.reduceEqDiff]
  refine wcl_self [3000000000] [] (by rfl) (by rfl) (by rfl) hP4 rfl (by simp [wOut, outU, uS, srcD, noPtrs, D.noPtr, shWL, AV.shW, posW, shUs, U.shW, St.unit, lu]) ?_
  simp +contextual -implicitDefEqProofs only [uS, srcD, eI, D.put, D.cells, D.size, D.sizeL, D.isAg, D.sub, modeOf, noPtrs, go_sem, ↓reduceIte, Nat.reduceEqDiff, Nat.reduceAdd, Nat.reduceLeDiff, Nat.reduceLT]
 have h3b : (x3 == 0) = false := by simp [h3]
 by_cases h4 : x3 = 1
 ·have h4b : (x3 == 1) = true := by simp [h4]
  obtain ⟨a4, sd4, x4, s1, s2, s3, s4, s5, hP4⟩ := hc1 nn c a3 sd3 5 hc (by omega) (by omega)
  have s5 := s5 (by omega)
  refine ⟨a4, sd4, (1 + x1, x4), by omega, by omega, by simp [okG, isIn]; omega, ?_⟩
  refine afw_of_res (wv := .no) hr hm rfl rfl rfl fun hb ha => ?_
  simp +contextual -implicitDefEqProofs only [k_l01DrawSig, uS, srcD, D.size, D.sizeL, go_sem, ↓reduceIte, Nat.reduceEqDiff, Nat.reduceAdd, Nat.reduceBneDiff, Nat.reduceLT]
  refine wcl_self [3000000000] [] (by rfl) (by rfl) (by rfl) hP1 rfl (by simp [wOut, outU, uS, srcD, noPtrs, D.noPtr, shWL, AV.shW, posW, shUs, U.shW, St.unit, lu]) ?_
  simp +contextual -implicitDefEqProofs only [uS, srcD, eI, w1, go_sem, ↓reduceIte, Nat.reduceEqDiff]
  refine wcl_self [3000000000] [] (by rfl) (by rfl) (by rfl) hP2 rfl (by simp [wOut, outU, uS, srcD, noPtrs, D.noPtr, shWL, AV.shW, posW, shUs, U.shW, St.unit, lu]) ?_
  simp +contextual -implicitDefEqProofs only [uS, srcD, eI, w2, D.put, D.cells, D.size, D.sizeL, D.isAg, modeOf, noPtrs, go_sem, ↓reduceIte, Nat.reduceEqDiff, Nat.reduceAdd, Nat.reduceLeDiff, Nat.reduceBneDiff, Nat.reduceLT, Nat.reduceSub]
  refine wcl_self [3000000000] [] (by rfl) (by rfl) (by rfl) hP3 rfl (by simp [wOut, outU, uS, srcD, noPtrs, D.noPtr, shWL, AV.shW, posW, shUs, U.shW, St.unit, lu]) ?_
  simp +contextual -implicitDefEqProofs only [uS, srcD, eI, eG, h3b, h4b, go_sem, ↓reduceIte, Nat.reduceEqDiff]
  refine wcl_self [3000000000] [] (by rfl) (by rfl) (by rfl) hP4 rfl (by simp [wOut, outU, uS, srcD, noPtrs, D.noPtr, shWL, AV.shW, posW, shUs, U.shW, St.unit, lu]) ?_
  simp +contextual -implicitDefEqProofs only [uS, srcD, eI, D.put, D.cells, D.size, D.sizeL, D.isAg, D.sub, modeOf, noPtrs, go_sem, ↓reduceIte, Nat.reduceEqDiff, Nat.reduceAdd, Nat.reduceLeDiff, Nat.reduceLT]
 ·have h4b : (x3 == 1) = false := by simp [h4]
  refine ⟨a3, sd3, (1 + x1, 1 + x2), by omega, by omega, by simp [okG, isIn]; omega, ?_⟩
  refine afw_of_res (wv := .no) hr hm rfl rfl rfl fun hb ha => ?_
  simp +contextual -implicitDefEqProofs only [k_l01DrawSig, uS, srcD, D.size, D.sizeL, go_sem, ↓reduceIte, Nat.reduceEqDiff, Nat.reduceAdd, Nat.reduceBneDiff, Nat.reduceLT]
  refine wcl_self [3000000000] [] (by rfl) (by rfl) (by rfl) hP1 rfl (by simp [wOut, outU, uS, srcD, noPtrs, D.noPtr, shWL, AV.shW, posW, shUs, U.shW, St.unit, lu]) ?_
  simp +contextual -implicitDefEqProofs only [uS, srcD, eI, w1, go_sem, ↓reduceIte, Nat.reduceEqDiff]
  refine wcl_self [3000000000] [] (by rfl) (by rfl) (by rfl) hP2 rfl (by simp [wOut, outU, uS, srcD, noPtrs, D.noPtr, shWL, AV.shW, posW, shUs, U.shW, St.unit, lu]) ?_
  simp +contextual -implicitDefEqProofs only [uS, srcD, eI, w2, D.put, D.cells, D.size, D.sizeL, D.isAg, modeOf, noPtrs, go_sem, ↓reduceIte, Nat.reduceEqDiff, Nat.reduceAdd, Nat.reduceLeDiff, Nat.reduceBneDiff, Nat.reduceLT, Nat.reduceSub]
  refine wcl_self [3000000000] [] (by rfl) (by rfl) (by rfl) hP3 rfl (by simp [wOut, outU, uS, srcD, noPtrs, D.noPtr, shWL, AV.shW, posW, shUs, U.shW, St.unit, lu]) ?_
  simp +contextual -implicitDefEqProofs only [uS, srcD, eI, eG, h3b, h4b, D.put, D.size, D.sizeL, D.isAg, D.sub, modeOf, noPtrs, go_sem, ↓reduceIte, Nat.reduceEqDiff, Nat.reduceAdd, Nat.reduceLeDiff, Nat.reduceLT]

def k_p6Sig (f1 f2 : Nat) : RC := (.seq (.reg false [⟨none, .zer 2 2 (.ag [(.sc (.int .i64 0)), (.sc (.int .i64 0))])⟩]) ((.seq (.reg false [⟨none, .mv 3 (.t 0)⟩, ⟨none, .call (some 4) f1 [(.t 3)]⟩, ⟨none, .wcl (some 5) f2 [(.t 4)]⟩, ⟨none, .st 2 (.t 2) (.t 5)⟩]) (.ret))))
def K_p6Sig (P : Program) (fno : Nat) : Prop := ∀ (nn : Option Bool) (c : List Int), srcOk c → ∃ g, okG g = true ∧ AF P fno [.ls nn 1 (c.map eU)] (.own (eG g))
theorem a_p6Sig {P : Program} (hm : P.follows .mixedOrders = true) {g f1 f2 : Nat} (hr : resF P g = some (6, k_p6Sig f1 f2, [.c 2 2 true])) (hc1 : K_l00From P f1) (hc2 : K_l01DrawSig P f2) : K_p6Sig P g := by
 intro nn c hc
 obtain ⟨a', sd', g, p1, p2, p3, hP⟩ := hc2 nn c 0 0 hc (by omega) (by omega)
 refine ⟨g, p3, ?_⟩
 refine af_of_res hr hm rfl fun hb => ?_
 simp +contextual -implicitDefEqProofs only [k_p6Sig, eG, D.size, D.sizeL, go_sem, eI, ↓reduceIte, Nat.reduceEqDiff, Nat.reduceAdd, Nat.reduceLT]
 refine callQ_self ?_ (hc1 nn c) ?_
 ·exact rfl
 simp +contextual -implicitDefEqProofs only [srcD, D.size, D.sizeL, go_sem, ↓reduceIte, Nat.reduceAdd, Nat.reduceBneDiff]
 refine wcl_self [4] [] (by rfl) (by rfl) (by rfl) hP rfl (by simp [wOut, outU, uS, srcD, noPtrs, D.noPtr, shWL, AV.shW, posW, shUs, U.shW, St.unit, lu]) ?_
 simp +contextual -implicitDefEqProofs only [uS, srcD, eG, D.put, D.size, D.sizeL, D.isAg, D.sub, modeOf, noPtrs, go_sem, eI, ↓reduceIte, Nat.reduceEqDiff, Nat.reduceAdd, Nat.reduceLeDiff, Nat.reduceLT]
end Go.Ax
