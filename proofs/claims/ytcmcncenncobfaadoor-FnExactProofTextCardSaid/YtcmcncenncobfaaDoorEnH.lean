/- THE ENGINE, PART 8: a generator of conditions over the register code, and its soundness. No condition. -/
import Derived.Test.YtcmcncenncobfaaDoorEnG
import Derived.ProofKit
set_option linter.unusedSimpArgs false
set_option linter.unusedVariables false
set_option linter.unnecessarySimpa false
set_option linter.unusedSectionVars false
namespace Go.Ax
set_option linter.unusedSimpArgs false

def cSzP : RC :=
 (.seq
  (.reg false [⟨none, .mv 4 (.c (.sc (.int .i64 0)))⟩])
  ((.seq
   (.reg false [⟨none, .mv 5 (.t 1)⟩,
     ⟨none, .mv 6 (.t 0)⟩,
     ⟨none, .len 7 (.t 6)⟩,
     ⟨none, .bin 8 .sub (.t 5) (.t 7)⟩,
     ⟨none, .mv 1 (.t 8)⟩])
   ((.seq
    ((.seq
     (.reg false [⟨none, .mv 9 (.t 1)⟩,
       ⟨none, .bin 10 .lss (.t 9) (.c (.sc (.int .i64 0)))⟩])
     (.cond (.t 10)
      ((.seq
       (.reg false [⟨none, .mv 4 (.c (.sc (.int .i64 (-1))))⟩])
       (.ret)))
      (.skip))))
    ((.seq
     (.reg false [⟨none, .mv 11 (.t 1)⟩,
       ⟨none, .mv 4 (.t 11)⟩])
     (.ret))))))))

def cSzC (f sz : Nat) (agg : Bool) : RC :=
 (.seq
  (.reg false [⟨none, .mv 4 (.c (.sc (.int .i64 0)))⟩])
  ((.seq
   (.reg false [⟨none, .mv 6 (.t 1)⟩,
     ⟨none, .mv 7 (.t 0)⟩,
     ⟨none, .len 8 (.t 7)⟩,
     ⟨none, .bin 9 .sub (.t 6) (.t 8)⟩,
     ⟨none, .mv 1 (.t 9)⟩])
   ((.seq
    ((.seq
     (.reg false [⟨none, .mv 10 (.t 1)⟩,
       ⟨none, .bin 11 .lss (.t 10) (.c (.sc (.int .i64 0)))⟩])
     (.cond (.t 11)
      ((.seq
       (.reg false [⟨none, .mv 4 (.c (.sc (.int .i64 (-1))))⟩])
       (.ret)))
      (.skip))))
    ((.seq
     ((.seq
      (.reg false [⟨none, .mv 5 (.c (.sc (.int .i64 0)))⟩])
      (.blk 0
       (.loop
        ((.seq
         ((.seq
          (.reg false [⟨none, .mv 12 (.t 5)⟩,
            ⟨none, .mv 13 (.t 0)⟩,
            ⟨none, .len 14 (.t 13)⟩,
            ⟨none, .bin 15 .lss (.t 12) (.t 14)⟩])
          (.cond (.t 15)
           (.skip)
           (.exit 0))))
         ((.seq
          (.blk 1
           ((.seq
            (.reg false [⟨none, .mv 18 (.t 0)⟩,
              ⟨none, .mv 19 (.t 5)⟩,
              ⟨none, .ia 20 sz (.t 18) (.t 19)⟩,
              ⟨none, .ld 21 agg sz (.t 20)⟩,
              ⟨none, .mv 22 (.t 1)⟩,
              ⟨none, .call (some 23) f [(.t 21), (.t 22)]⟩,
              ⟨none, .mv 1 (.t 23)⟩])
            ((.seq
             (.reg false [⟨none, .mv 24 (.t 1)⟩,
               ⟨none, .bin 25 .lss (.t 24) (.c (.sc (.int .i64 0)))⟩])
             (.cond (.t 25)
              ((.seq
               (.reg false [⟨none, .mv 4 (.c (.sc (.int .i64 (-1))))⟩])
               (.ret)))
              (.skip)))))))
          (.reg false [⟨none, .mv 16 (.t 5)⟩,
            ⟨none, .bin 17 .add (.t 16) (.c (.sc (.int .i64 1)))⟩,
            ⟨none, .mv 5 (.t 17)⟩])))))))))
     ((.seq
      (.reg false [⟨none, .mv 26 (.t 1)⟩,
        ⟨none, .mv 4 (.t 26)⟩])
      (.ret))))))))))

def cToS (bytes : Nat) (z : D) : RC :=
 (.seq
  (.reg false [⟨none, .mv 2 (.c (.ls (some true) 1 []))⟩])
  ((.seq
   (.reg false [⟨none, .mv 5 (.t 0)⟩,
     ⟨none, .len 6 (.t 5)⟩,
     ⟨none, .mk 7 1 bytes z (.t 6) (.t 6)⟩,
     ⟨none, .mv 3 (.t 7)⟩])
   ((.seq
    ((.seq
     (.reg false [⟨none, .mv 4 (.c (.sc (.int .i64 0)))⟩])
     (.blk 0
      (.loop
       ((.seq
        ((.seq
         (.reg false [⟨none, .mv 8 (.t 4)⟩,
           ⟨none, .mv 9 (.t 0)⟩,
           ⟨none, .len 10 (.t 9)⟩,
           ⟨none, .bin 11 .lss (.t 8) (.t 10)⟩])
         (.cond (.t 11)
          (.skip)
          (.exit 0))))
        ((.seq
         (.blk 1
          (.reg false [⟨none, .mv 14 (.t 3)⟩,
            ⟨none, .mv 15 (.t 4)⟩,
            ⟨none, .mv 16 (.t 0)⟩,
            ⟨none, .mv 17 (.t 4)⟩,
            ⟨none, .ia 18 1 (.t 16) (.t 17)⟩,
            ⟨none, .ld 19 false 1 (.t 18)⟩,
            ⟨none, .ia 20 1 (.t 14) (.t 15)⟩,
            ⟨none, .st 1 (.t 20) (.t 19)⟩]))
         (.reg false [⟨none, .mv 12 (.t 4)⟩,
           ⟨none, .bin 13 .add (.t 12) (.c (.sc (.int .i64 1)))⟩,
           ⟨none, .mv 4 (.t 13)⟩])))))))))
    ((.seq
     (.reg false [⟨none, .mv 21 (.t 3)⟩,
       ⟨none, .mv 2 (.t 21)⟩])
     (.ret))))))))

def cToC (f sz bytes : Nat) (agg : Bool) (z : D) : RC :=
 (.seq
  (.reg false [⟨none, .mv 2 (.c (.ls (some true) sz []))⟩])
  ((.seq
   (.reg false [⟨none, .mv 5 (.t 0)⟩,
     ⟨none, .len 6 (.t 5)⟩,
     ⟨none, .mk 7 sz bytes z (.t 6) (.t 6)⟩,
     ⟨none, .mv 3 (.t 7)⟩])
   ((.seq
    ((.seq
     (.reg false [⟨none, .mv 4 (.c (.sc (.int .i64 0)))⟩])
     (.blk 0
      (.loop
       ((.seq
        ((.seq
         (.reg false [⟨none, .mv 8 (.t 4)⟩,
           ⟨none, .mv 9 (.t 0)⟩,
           ⟨none, .len 10 (.t 9)⟩,
           ⟨none, .bin 11 .lss (.t 8) (.t 10)⟩])
         (.cond (.t 11)
          (.skip)
          (.exit 0))))
        ((.seq
         (.blk 1
          (.reg false [⟨none, .mv 14 (.t 3)⟩,
            ⟨none, .mv 15 (.t 4)⟩,
            ⟨none, .mv 16 (.t 0)⟩,
            ⟨none, .mv 17 (.t 4)⟩,
            ⟨none, .ia 18 sz (.t 16) (.t 17)⟩,
            ⟨none, .ld 19 agg sz (.t 18)⟩,
            ⟨none, .call (some 20) f [(.t 19)]⟩,
            ⟨none, .ia 21 sz (.t 14) (.t 15)⟩,
            ⟨none, .st sz (.t 21) (.t 20)⟩]))
         (.reg false [⟨none, .mv 12 (.t 4)⟩,
           ⟨none, .bin 13 .add (.t 12) (.c (.sc (.int .i64 1)))⟩,
           ⟨none, .mv 4 (.t 13)⟩])))))))))
    ((.seq
     (.reg false [⟨none, .mv 22 (.t 3)⟩,
       ⟨none, .mv 2 (.t 22)⟩])
     (.ret))))))))

def cEqS : RC :=
 (.seq
  (.reg false [⟨none, .mv 4 (.c (.sc (.bool false)))⟩])
  ((.seq
   ((.seq
    (.reg false [⟨none, .mv 6 (.t 0)⟩,
      ⟨none, .len 7 (.t 6)⟩,
      ⟨none, .mv 8 (.t 1)⟩,
      ⟨none, .len 9 (.t 8)⟩,
      ⟨none, .bin 10 .neq (.t 7) (.t 9)⟩])
    (.cond (.t 10)
     ((.seq
      (.reg false [⟨none, .mv 4 (.c (.sc (.bool false)))⟩])
      (.ret)))
     (.skip))))
   ((.seq
    ((.seq
     (.reg false [⟨none, .mv 5 (.c (.sc (.int .i64 0)))⟩])
     (.blk 0
      (.loop
       ((.seq
        ((.seq
         (.reg false [⟨none, .mv 11 (.t 5)⟩,
           ⟨none, .mv 12 (.t 0)⟩,
           ⟨none, .len 13 (.t 12)⟩,
           ⟨none, .bin 14 .lss (.t 11) (.t 13)⟩])
         (.cond (.t 14)
          (.skip)
          (.exit 0))))
        ((.seq
         (.blk 1
          ((.seq
           (.reg true [⟨none, .mv 17 (.t 0)⟩,
             ⟨none, .mv 18 (.t 5)⟩,
             ⟨none, .ia 19 1 (.t 17) (.t 18)⟩,
             ⟨none, .ld 20 false 1 (.t 19)⟩,
             ⟨none, .mv 21 (.t 1)⟩,
             ⟨none, .mv 22 (.t 5)⟩,
             ⟨none, .ia 23 1 (.t 21) (.t 22)⟩,
             ⟨none, .ld 24 false 1 (.t 23)⟩,
             ⟨none, .bin 25 .neq (.t 20) (.t 24)⟩])
           (.cond (.t 25)
            ((.seq
             (.reg false [⟨none, .mv 4 (.c (.sc (.bool false)))⟩])
             (.ret)))
            (.skip)))))
         (.reg false [⟨none, .mv 15 (.t 5)⟩,
           ⟨none, .bin 16 .add (.t 15) (.c (.sc (.int .i64 1)))⟩,
           ⟨none, .mv 5 (.t 16)⟩])))))))))
    ((.seq
     (.reg false [⟨none, .mv 4 (.c (.sc (.bool true)))⟩])
     (.ret))))))))

def cEqC (f sz : Nat) (agg : Bool) : RC :=
 (.seq
  (.reg false [⟨none, .mv 4 (.c (.sc (.bool false)))⟩])
  ((.seq
   ((.seq
    (.reg false [⟨none, .mv 6 (.t 0)⟩,
      ⟨none, .len 7 (.t 6)⟩,
      ⟨none, .mv 8 (.t 1)⟩,
      ⟨none, .len 9 (.t 8)⟩,
      ⟨none, .bin 10 .neq (.t 7) (.t 9)⟩])
    (.cond (.t 10)
     ((.seq
      (.reg false [⟨none, .mv 4 (.c (.sc (.bool false)))⟩])
      (.ret)))
     (.skip))))
   ((.seq
    ((.seq
     (.reg false [⟨none, .mv 5 (.c (.sc (.int .i64 0)))⟩])
     (.blk 0
      (.loop
       ((.seq
        ((.seq
         (.reg false [⟨none, .mv 11 (.t 5)⟩,
           ⟨none, .mv 12 (.t 0)⟩,
           ⟨none, .len 13 (.t 12)⟩,
           ⟨none, .bin 14 .lss (.t 11) (.t 13)⟩])
         (.cond (.t 14)
          (.skip)
          (.exit 0))))
        ((.seq
         (.blk 1
          ((.seq
           (.reg true [⟨none, .mv 17 (.t 0)⟩,
             ⟨none, .mv 18 (.t 5)⟩,
             ⟨none, .ia 19 sz (.t 17) (.t 18)⟩,
             ⟨none, .ld 20 agg sz (.t 19)⟩,
             ⟨none, .mv 21 (.t 1)⟩,
             ⟨none, .mv 22 (.t 5)⟩,
             ⟨none, .ia 23 sz (.t 21) (.t 22)⟩,
             ⟨none, .ld 24 agg sz (.t 23)⟩,
             ⟨none, .call (some 25) f [(.t 20), (.t 24)]⟩,
             ⟨none, .un 26 .not (.t 25)⟩])
           (.cond (.t 26)
            ((.seq
             (.reg false [⟨none, .mv 4 (.c (.sc (.bool false)))⟩])
             (.ret)))
            (.skip)))))
         (.reg false [⟨none, .mv 15 (.t 5)⟩,
           ⟨none, .bin 16 .add (.t 15) (.c (.sc (.int .i64 1)))⟩,
           ⟨none, .mv 5 (.t 16)⟩])))))))))
    ((.seq
     (.reg false [⟨none, .mv 4 (.c (.sc (.bool true)))⟩])
     (.ret))))))))

abbrev SL (α : Type) := Option Bool × List α
def eI (n : Int) : D := .sc (.int .i64 n)
def eB (b : Bool) : D := .sc (.bool b)
def eS {α : Type} (sz : Nat) (f : α → D) (s : SL α) : D := .ls s.1 sz (s.2.map f)

structure Enc {α : Type} (f : α → D) (sz : Nat) (agg : Bool) : Prop where
 pos : 0 < sz
 size : ∀ x, (f x).size = sz
 isAg : ∀ x, (f x).isAg = agg
 sub : ∀ x, D.sub (f x) 0 sz agg = f x

def cut (x : Int) : Int := if x < 0 then -1 else x

theorem len_of_bd {nn : Option Bool} {sz : Nat} {ds : List D} {r : List D} (h : D.bdL (.ls nn sz ds :: r)) : ds.length ≤ maxEl := by simp only [D.bdL, D.bd] at h; exact h.1.1

def szL {α : Type} (sA : α → Int → Int) : List α → Int → Int
 | [], left => left
 | x :: r, left => if left < 0 then left else szL sA r (sA x left)
theorem szL_neg {α : Type} {sA : α → Int → Int} : ∀ {r : List α} {left : Int}, left < 0 → szL sA r left = left
 | [], _, _ => rfl
 | s :: r, left, h => by simp [szL, h]
def szS {α : Type} (sA : α → Int → Int) (s : SL α) (left : Int) : Int := szL sA s.2 (cut (left - s.2.length))

def eqL {α : Type} (q : α → α → Bool) : List α → List α → Bool
 | [], [] => true
 | x :: a, y :: b => q x y && eqL q a b
 | _, _ => false
theorem eqL_len {α : Type} {q : α → α → Bool} : ∀ {a b : List α}, a.length ≠ b.length → eqL q a b = false
 | [], [], h => (h rfl).elim
 | [], _ :: _, _ => rfl
 | _ :: _, [], _ => rfl
 | x :: a, y :: b, h => by simp only [eqL, eqL_len (a := a) (b := b) (by simpa using h), bJ]

def half {α : Type} (f : α → D) (z : D) (l : List α) (i : Nat) : List D := (l.take i).map f ++ List.replicate (l.length - i) z
theorem half_len {α : Type} {f : α → D} {z : D} {l : List α} {i : Nat} (h : i ≤ l.length) : (half f z l i).length = l.length := by simp [half]; omega
theorem half_zero {α : Type} {f : α → D} {z : D} {l : List α} : half f z l 0 = List.replicate l.length z := by simp [half]
theorem half_full {α : Type} {f : α → D} {z : D} {l : List α} {i : Nat} (h : l.length ≤ i) : half f z l i = l.map f := by
 simp [half, List.take_of_length_le h, Nat.sub_eq_zero_of_le h]
theorem half_at {α : Type} {f : α → D} {z : D} {l : List α} {i : Nat} (h : i < l.length) : D.at (half f z l i) i = z := by
 simp only [half, D.at, List.getD_eq_getElem?_getD]
 rw [List.getElem?_append_right (by simp; omega)]
 rw [List.getElem?_replicate, if_pos (by simp; omega)]
 rfl
theorem half_set {α : Type} {f : α → D} {z : D} {l : List α} {i : Nat} (h : i < l.length) : (half f z l i).set i (f l[i]) = half f z l (i + 1) := by
 unfold half
 rw [List.set_append_right _ _ (by simp; omega)]
 have e1 : l.length - i = (l.length - (i + 1)) + 1 := by omega
 have e2 : i - ((l.take i).map f).length = 0 := by simp; omega
 rw [e1, e2, List.replicate_succ, List.set_cons_zero, List.take_succ_eq_append_getElem h, List.map_append, List.append_assoc]
 rfl

section
variable {P : Program} (hm : P.follows .mixedOrders = true)
include hm

theorem af_szP {g sz : Nat} (hr : resF P g = some (12, cSzP, [.t 4])) (nn : Option Bool) (ds : List D) (left : Int) (h1 : -1 ≤ left) (h2 : left ≤ 1048576) :
  AF P g [.ls nn sz ds, eI left] (.own (eI (cut (left - ds.length)))) := by
 refine af_of_res hr hm rfl fun hb => ?_
 have hl := len_of_bd hb
 unfold maxEl at hl
 simp -implicitDefEqProofs only [cSzP, eI, go_sem, ↓reduceIte, Nat.reduceEqDiff, Nat.reduceAdd]
 rw [wrap_i64 (by omega) (by omega)]
 exact ⟨fun h => D.Le.sc_eq (by simp [cut, h]), fun h => D.Le.sc_eq (by simp [cut, h])⟩

theorem af_szC {α : Type} {f : α → D} {sz : Nat} {agg : Bool} (e : Enc f sz agg) {g h : Nat} (hr : resF P g = some (27, cSzC h sz agg, [.t 4])) (sA : α → Int → Int) (s : SL α)
  (hc : ∀ x ∈ s.2, ∀ l : Int, 0 ≤ l → l ≤ 1048576 → AF P h [f x, eI l] (.own (eI (sA x l))) ∧ -1 ≤ sA x l ∧ sA x l ≤ 1048576) (left : Int) (h1 : -1 ≤ left) (h2 : left ≤ 1048576) :
  AF P g [eS sz f s, eI left] (.own (eI (szS sA s left))) := by
 refine af_of_res hr hm rfl fun hb => ?_
 have hl := len_of_bd hb
 unfold maxEl at hl
 simp only [lM] at hl
 have hp := e.pos
 simp -implicitDefEqProofs only [cSzC, eS, go_sem, eI, ↓reduceIte, Nat.reduceEqDiff, Nat.reduceAdd, lM]
 rw [wrap_i64 (by omega) (by omega)]
 refine ⟨fun h => D.Le.sc_eq ?_, fun h => ?_⟩
 ·simp only [szS, cut, if_pos h]; rw [szL_neg (by omega)]
 refine vc_loop (α := Nat × Int) (fun x => ⟨27, [(0, .im none (.ls s.1 sz (s.2.map f))), (1, .im none (.sc (.int .i64 x.2))), (5, .im none (.sc (.int .i64 x.1)))], []⟩)
  (fun x => x.1 ≤ s.2.length ∧ 0 ≤ x.2 ∧ x.2 ≤ 1048576 ∧ szL sA (s.2.drop x.1) x.2 = szS sA s left) (fun x => s.2.length - x.1) (0, left - s.2.length)
  (Ent.env (by simp only [subEnv, go_sem, ↓reduceIte, Nat.reduceEqDiff]; simp)) ⟨by simp, by simp; omega, by simp; omega, by simp only [szS, cut, if_neg h, List.drop_zero]⟩ ?_
 rintro ⟨i, l⟩ ⟨j1, j2, j3, j4⟩
 simp only at j1 j2 j3 j4
 by_cases hi : i < s.2.length
 ·have e1 := at_map (f := f) hi
  obtain ⟨a1, a2, a3⟩ := hc s.2[i] (List.getElem_mem _) l j2 j3
  simp -implicitDefEqProofs only [go_sem, ↓reduceIte, Nat.reduceEqDiff, e1, e.sub, e.size, e.isAg, hp, iL, hi, lM, iN, and_self, true_and, and_true, not_true_eq_false, false_implies, true_implies, Nat.zero_add, Nat.le_refl]
  refine ⟨id, callQ_self ?_ a1 ?_⟩
  ·exact rfl
  simp -implicitDefEqProofs only [go_sem, eI, ↓reduceIte, Nat.reduceEqDiff]
  rw [List.drop_eq_getElem_cons hi] at j4
  simp only [szL, if_neg (show ¬ l < 0 by omega)] at j4
  refine ⟨fun h => D.Le.sc_eq ?_, fun h => ?_⟩
  ·rw [← j4, szL_neg h]
   congr 1
   omega
  ·rw [wrap_i64 (by omega) (by omega)]
   refine ⟨(i + 1, sA s.2[i] l), ⟨by simp; omega, by simpa using h, a3, j4⟩, by simp; omega, Ent.env (by simp only [subEnv, go_sem, ↓reduceIte, Nat.reduceEqDiff]; simp)⟩
 ·simp -implicitDefEqProofs only [go_sem, ↓reduceIte, Nat.reduceEqDiff, iL, hi, lM, true_and, and_true, not_false_eq_true, false_implies, true_implies]
  refine D.Le.sc_eq ?_
  rw [← j4, List.drop_eq_nil_of_le (by omega)]
  rfl

theorem af_eqC {α : Type} {f : α → D} {sz : Nat} {agg : Bool} (e : Enc f sz agg) {g h : Nat} (hr : resF P g = some (27, cEqC h sz agg, [.t 4])) (q : α → α → Bool) (a b : SL α)
  (hc : ∀ x ∈ a.2, ∀ y ∈ b.2, AF P h [f x, f y] (.own (eB (q x y)))) :
  AF P g [eS sz f a, eS sz f b] (.own (eB (eqL q a.2 b.2))) := by
 refine af_of_res hr hm rfl fun hb => ?_
 have hl := len_of_bd hb
 have hl2 := len_of_bd hb.2
 unfold maxEl at hl hl2
 simp only [lM] at hl hl2
 have hp := e.pos
 simp -implicitDefEqProofs only [cEqC, eS, go_sem, eB, ↓reduceIte, Nat.reduceEqDiff, Nat.reduceAdd, lM]
 refine ⟨fun h => D.Le.sc_eq ?_, fun h => ?_⟩
 ·rw [eqL_len (by simp at h; omega)]
 have hlen : a.2.length = b.2.length := by simp at h; omega
 refine vc_loop (α := Nat) (fun i => ⟨27, [(0, .im none (.ls a.1 sz (a.2.map f))), (1, .im none (.ls b.1 sz (b.2.map f))), (5, .im none (.sc (.int .i64 i)))], []⟩)
  (fun i => i ≤ a.2.length ∧ eqL q (a.2.drop i) (b.2.drop i) = eqL q a.2 b.2) (fun i => a.2.length - i) 0
  (Ent.env (by simp only [subEnv, go_sem, ↓reduceIte, Nat.reduceEqDiff]; simp)) ⟨by simp, by simp⟩ ?_
 rintro i ⟨j1, j4⟩
 by_cases hi : i < a.2.length
 ·have hi2 : i < b.2.length := by omega
  have e1 := at_map (f := f) hi
  have e2 := at_map (f := f) hi2
  have a1 := hc a.2[i] (List.getElem_mem _) b.2[i] (List.getElem_mem _)
  simp -implicitDefEqProofs only [go_sem, ↓reduceIte, Nat.reduceEqDiff, e1, e2, e.sub, e.size, e.isAg, hp, hi2, iL, hi, lM, iN, and_self, true_and, and_true, not_true_eq_false, false_implies, true_implies, Nat.zero_add, Nat.le_refl]
  refine ⟨id, id, callQ_self ?_ a1 ?_⟩
  ·exact rfl
  simp -implicitDefEqProofs only [go_sem, eB, ↓reduceIte, Nat.reduceEqDiff]
  rw [List.drop_eq_getElem_cons hi, List.drop_eq_getElem_cons hi2] at j4
  simp only [eqL] at j4
  refine ⟨fun h => D.Le.sc_eq ?_, fun h => ?_⟩
  ·rw [← j4]
   simp at h
   simp [h]
  ·rw [wrap_i64 (by omega) (by omega)]
   refine ⟨i + 1, ⟨by omega, ?_⟩, by omega, Ent.env (by simp only [subEnv, go_sem, ↓reduceIte, Nat.reduceEqDiff]; simp)⟩
   rw [← j4]
   simp at h
   simp [h]
 ·simp -implicitDefEqProofs only [go_sem, ↓reduceIte, Nat.reduceEqDiff, iL, hi, lM, iN, true_and, and_true, not_false_eq_true, false_implies, true_implies, Nat.zero_add]
  refine D.Le.sc_eq ?_
  rw [← j4, List.drop_eq_nil_of_le (by omega), List.drop_eq_nil_of_le (by omega)]
  rfl

theorem af_eqS {g : Nat} (hr : resF P g = some (26, cEqS, [.t 4])) (a b : SL Int) :
  AF P g [eS 1 eI a, eS 1 eI b] (.own (eB (eqL (fun x y => x == y) a.2 b.2))) := by
 refine af_of_res hr hm rfl fun hb => ?_
 have hl := len_of_bd hb
 have hl2 := len_of_bd hb.2
 unfold maxEl at hl hl2
 simp only [lM] at hl hl2
 simp -implicitDefEqProofs only [cEqS, eS, go_sem, eB, ↓reduceIte, Nat.reduceEqDiff, Nat.reduceAdd, lM]
 refine ⟨fun h => D.Le.sc_eq ?_, fun h => ?_⟩
 ·rw [eqL_len (by simp at h; omega)]
 have hlen : a.2.length = b.2.length := by simp at h; omega
 refine vc_loop (α := Nat) (fun i => ⟨26, [(0, .im none (.ls a.1 1 (a.2.map eI))), (1, .im none (.ls b.1 1 (b.2.map eI))), (5, .im none (.sc (.int .i64 i)))], []⟩)
  (fun i => i ≤ a.2.length ∧ eqL (fun x y => x == y) (a.2.drop i) (b.2.drop i) = eqL (fun x y => x == y) a.2 b.2) (fun i => a.2.length - i) 0
  (Ent.env (by simp only [subEnv, go_sem, ↓reduceIte, Nat.reduceEqDiff]; simp)) ⟨by simp, by simp⟩ ?_
 rintro i ⟨j1, j4⟩
 by_cases hi : i < a.2.length
 ·have hi2 : i < b.2.length := by omega
  have e1 := at_map (f := eI) hi
  have e2 := at_map (f := eI) hi2
  simp -implicitDefEqProofs only [go_sem, eI, ↓reduceIte, Nat.reduceEqDiff, e1, e2, hi2, iL, hi, lM, iN, Nat.zero_lt_one, and_self, true_and, and_true, not_true_eq_false, false_implies, true_implies, Nat.zero_add, Nat.le_refl]
  rw [List.drop_eq_getElem_cons hi, List.drop_eq_getElem_cons hi2] at j4
  simp only [eqL] at j4
  refine ⟨fun h => D.Le.sc_eq ?_, fun h => ?_⟩
  ·rw [← j4]
   simp at h
   simp [h]
  ·rw [wrap_i64 (by omega) (by omega)]
   refine ⟨i + 1, ⟨by omega, ?_⟩, by omega, Ent.env (by simp only [subEnv, go_sem, ↓reduceIte, Nat.reduceEqDiff]; simp)⟩
   rw [← j4]
   simp at h
   simp [h]
 ·simp -implicitDefEqProofs only [go_sem, ↓reduceIte, Nat.reduceEqDiff, iL, hi, lM, iN, Nat.zero_lt_one, true_and, and_true, not_false_eq_true, false_implies, true_implies, Nat.zero_add]
  refine D.Le.sc_eq ?_
  rw [← j4, List.drop_eq_nil_of_le (by omega), List.drop_eq_nil_of_le (by omega)]
  rfl

theorem af_toC {α β : Type} {f : α → D} {f' : β → D} {tA : α → β} {sz bytes : Nat} {agg : Bool} {z : D} (e : Enc f sz agg) (e' : Enc f' sz agg) (hz : z.size = sz ∧ z.noPtr = true ∧ z.isAg = agg) {g h : Nat} (hr : resF P g = some (23, cToC h sz bytes agg z, [.t 2])) (s : SL α)
  (hby : bytes * s.2.length ≤ 140737488355328 ∧ s.2.length ≤ 140737488355328) (hc : ∀ x ∈ s.2, AF P h [f x] (.own (f' (tA x)))) : AF P g [eS sz f s] (.own (eS sz f' (some false, s.2.map tA))) := by
 refine af_of_res hr hm rfl fun hb => ?_
 have hl := len_of_bd hb
 unfold maxEl at hl
 simp only [lM] at hl
 have hp := e.pos
 simp -implicitDefEqProofs only [cToC, eS, go_sem, ↓reduceIte, Nat.reduceEqDiff, lM]
 refine ⟨⟨by omega, by omega, by rw [← Int.natCast_mul]; exact Int.ofNat_le.2 hby.1, by omega, hp, hz.1, hz.2.1⟩, ?_⟩
 refine vc_loop (α := Nat) (fun i => ⟨23, [(0, .im none (.ls s.1 sz (s.2.map f))), (3, .sm 7 0 s.2.length), (4, .im none (.sc (.int .i64 i)))], [(7, .ar true (some false) sz (half (fun x => f' (tA x)) z s.2 i))]⟩)
  (fun i => i ≤ s.2.length) (fun i => s.2.length - i) 0
  (by rw [half_zero]; exact Ent.env (by simp only [subEnv, go_sem, ↓reduceIte, Nat.reduceEqDiff]; simp)) (by simp) ?_
 rintro i j1
 have hh := half_len (f := fun x => f' (tA x)) (z := z) j1
 by_cases hi : i < s.2.length
 ·have e1 := at_map (f := f) hi
  have a1 := hc s.2[i] (List.getElem_mem _)
  have e2 := half_at (f := fun x => f' (tA x)) (z := z) hi
  have e3 := half_set (f := fun x => f' (tA x)) (z := z) hi
  simp -implicitDefEqProofs only [go_sem, ↓reduceIte, Nat.reduceEqDiff, e1, e.sub, e.size, e.isAg, hp, iL, hi, lM, iN, and_self, true_and, and_true, not_true_eq_false, false_implies, true_implies, Nat.zero_add, Nat.le_refl]
  refine ⟨id, callQ_self ?_ a1 ?_⟩
  ·exact rfl
  cases hnp : (f' (tA s.2[i])).flat with
  | true =>
   simp -implicitDefEqProofs only [go_sem, ↓reduceIte, Nat.reduceEqDiff, hnp, e'.size, hh, e2, e3, hz, iL, hi, iN, and_self, true_and, Nat.zero_add, Nat.le_refl]
   rw [wrap_i64 (by omega) (by omega)]
   exact ⟨hp, i + 1, by omega, by omega, Ent.env (by simp only [subEnv, go_sem, ↓reduceIte, Nat.reduceEqDiff]; simp)⟩
  | false =>
   simp -implicitDefEqProofs only [go_sem, ↓reduceIte, Nat.reduceEqDiff, Nat.reduceBEq, Nat.reduceBneDiff, hnp, e'.size, hh, e2, e3, hz, iL, hi, iN, and_self, true_and, Nat.zero_add, Nat.le_refl]
   rw [wrap_i64 (by omega) (by omega)]
   exact ⟨hp, i + 1, by omega, by omega, Ent.env (by simp only [subEnv, go_sem, ↓reduceIte, Nat.reduceEqDiff]; simp)⟩
 ·simp -implicitDefEqProofs only [go_sem, ↓reduceIte, Nat.reduceEqDiff, iL, hi, lM, iN, true_and, and_true, not_false_eq_true, false_implies, true_implies, Nat.zero_add]
  rw [half_full (by omega), List.map_map]
  exact ⟨by simp, D.Le.refl _⟩

theorem af_toS {α : Type} {f : α → D} {bytes : Nat} {z : D} (e : Enc f 1 false) (hno : ∀ x, (f x).flat = true) (hz : z.size = 1 ∧ z.noPtr = true ∧ z.isAg = false) {g : Nat} (hr : resF P g = some (22, cToS bytes z, [.t 2])) (s : SL α)
  (hby : bytes * s.2.length ≤ 140737488355328 ∧ s.2.length ≤ 140737488355328) : AF P g [eS 1 f s] (.own (eS 1 f (some false, s.2))) := by
 refine af_of_res hr hm rfl fun hb => ?_
 have hl := len_of_bd hb
 unfold maxEl at hl
 simp only [lM] at hl
 have hp := e.pos
 simp -implicitDefEqProofs only [cToS, eS, go_sem, ↓reduceIte, Nat.reduceEqDiff, lM]
 refine ⟨⟨by omega, by omega, by rw [← Int.natCast_mul]; exact Int.ofNat_le.2 hby.1, by omega, hp, hz.1, hz.2.1⟩, ?_⟩
 refine vc_loop (α := Nat) (fun i => ⟨22, [(0, .im none (.ls s.1 1 (s.2.map f))), (3, .sm 7 0 s.2.length), (4, .im none (.sc (.int .i64 i)))], [(7, .ar true (some false) 1 (half (fun x => f x) z s.2 i))]⟩)
  (fun i => i ≤ s.2.length) (fun i => s.2.length - i) 0
  (by rw [half_zero]; exact Ent.env (by simp only [subEnv, go_sem, ↓reduceIte, Nat.reduceEqDiff]; simp)) (by simp) ?_
 rintro i j1
 have hh := half_len (f := fun x => f x) (z := z) j1
 by_cases hi : i < s.2.length
 ·have e1 := at_map (f := f) hi
  have e2 := half_at (f := fun x => f x) (z := z) hi
  have e3 := half_set (f := fun x => f x) (z := z) hi
  simp -implicitDefEqProofs only [go_sem, ↓reduceIte, Nat.reduceEqDiff, hno, e1, e.sub, e.size, e.isAg, hp, hh, e2, e3, hz, iL, hi, lM, iN, and_self, true_and, and_true, not_true_eq_false, false_implies, true_implies, Nat.zero_add, Nat.le_refl]
  rw [wrap_i64 (by omega) (by omega)]
  exact ⟨i + 1, by omega, by omega, Ent.env (by simp only [subEnv, go_sem, ↓reduceIte, Nat.reduceEqDiff]; simp)⟩
 ·simp -implicitDefEqProofs only [go_sem, ↓reduceIte, Nat.reduceEqDiff, iL, hi, lM, iN, Nat.zero_lt_one, and_self, true_and, and_true, not_false_eq_true, false_implies, true_implies, Nat.zero_add, Nat.le_refl]
  rw [half_full (by omega)]
  exact ⟨by simp, D.Le.refl _⟩
end
end Go.Ax
namespace Go.Ax

theorem cut_ge (x : Int) : -1 ≤ cut x := by unfold cut; split <;> omega
theorem cut_le {x b : Int} (h : x ≤ b) (hb : -1 ≤ b) : cut x ≤ b := by unfold cut; split <;> omega
theorem cut_nonneg {x : Int} (h : 0 ≤ cut x) : 0 ≤ x ∧ cut x = x := by
 unfold cut at h ⊢
 split at h
 ·omega
 ·next hx => rw [if_neg hx]; omega
theorem szL_in {α : Type} {sA : α → Int → Int} : ∀ {r : List α} {l : Int}, (∀ x ∈ r, ∀ l, 0 ≤ l → l ≤ 1048576 → -1 ≤ sA x l ∧ sA x l ≤ l) → -1 ≤ l → l ≤ 1048576 → -1 ≤ szL sA r l ∧ szL sA r l ≤ l
 | [], l, _, h1, h2 => ⟨h1, by simp [szL]⟩
 | x :: r, l, h, h1, h2 => by
  simp only [szL]
  split
  ·exact ⟨h1, by omega⟩
  ·have a := h x (by simp) l (by omega) h2
   have b := szL_in (r := r) (l := sA x l) (fun y hy => h y (by simp [hy])) a.1 (by omega)
   omega
theorem szL_fit {α : Type} {sA : α → Int → Int} {fit : α → Prop} : ∀ {r : List α} {l : Int}, (∀ x ∈ r, ∀ l, 0 ≤ l → l ≤ 1048576 → -1 ≤ sA x l ∧ sA x l ≤ l) →
  (∀ x ∈ r, ∀ l, l ≤ 1048576 → 0 ≤ l → 0 ≤ sA x l → fit x) → l ≤ 1048576 → 0 ≤ szL sA r l → ∀ x ∈ r, fit x
 | [], _, _, _, _, _ => by simp
 | y :: r, l, h, hf, h1, h2 => by
  simp only [szL] at h2
  split at h2
  ·omega
  ·next hl =>
   have a := h y (by simp) l (by omega) h1
   have hy0 : 0 ≤ sA y l := by
    by_cases h' : sA y l < 0
    ·rw [szL_neg h'] at h2; exact h2
    ·omega
   intro x hx
   rcases List.mem_cons.1 hx with rfl | hx
   ·exact hf _ (by simp) l h1 (by omega) hy0
   ·exact szL_fit (fun z hz => h z (by simp [hz])) (fun z hz => hf z (by simp [hz])) (by omega) h2 x hx
theorem szS_in {α : Type} {sA : α → Int → Int} {s : SL α} {l : Int} (h : ∀ x ∈ s.2, ∀ l, 0 ≤ l → l ≤ 1048576 → -1 ≤ sA x l ∧ sA x l ≤ l) (h1 : 0 ≤ l) (h2 : l ≤ 1048576) : -1 ≤ szS sA s l ∧ szS sA s l ≤ l := by
 have c1 := cut_ge (l - s.2.length)
 have c2 : cut (l - s.2.length) ≤ l := cut_le (by omega) (by omega)
 have := szL_in h c1 (by omega)
 unfold szS
 omega
theorem szS_fit {α : Type} {sA : α → Int → Int} {fit : α → Prop} {s : SL α} {l : Int} (h : ∀ x ∈ s.2, ∀ l, 0 ≤ l → l ≤ 1048576 → -1 ≤ sA x l ∧ sA x l ≤ l)
  (hf : ∀ x ∈ s.2, ∀ l, l ≤ 1048576 → 0 ≤ l → 0 ≤ sA x l → fit x) (h2 : l ≤ 1048576) (h0 : 0 ≤ l) (h3 : 0 ≤ szS sA s l) : s.2.length ≤ 1048576 ∧ ∀ x ∈ s.2, fit x := by
 unfold szS at h3
 have c2 : cut (l - s.2.length) ≤ l := cut_le (by omega) (by omega)
 have b : 0 ≤ cut (l - s.2.length) := by
  by_cases h' : cut (l - s.2.length) < 0
  ·rw [szL_neg h'] at h3; omega
  ·omega
 have b' := (cut_nonneg b).1
 exact ⟨by omega, szL_fit h hf (by omega) h3⟩
theorem eqL_refl {α : Type} {q : α → α → Bool} : ∀ {l : List α}, (∀ x ∈ l, q x x = true) → eqL q l l = true
 | [], _ => rfl
 | x :: l, h => by
  have := eqL_refl (l := l) (q := q) fun y hy => h y (by simp [hy])
  simp [eqL, h x (by simp), this]

structure Fam (P : Program) {α : Type} (f : α → D) (sF tF qF : Nat) where
 s : α → Int → Int
 t : α → α
 q : α → α → Bool
 fit : α → Prop
 s_in : ∀ x l, 0 ≤ l → l ≤ 1048576 → -1 ≤ s x l ∧ s x l ≤ l
 s_fit : ∀ x l, l ≤ 1048576 → 0 ≤ l → 0 ≤ s x l → fit x
 q_refl : ∀ x, q x x = true
 afS : ∀ x l, 0 ≤ l → l ≤ 1048576 → AF P sF [f x, eI l] (.own (eI (s x l)))
 afT : ∀ x, fit x → AF P tF [f x] (.own (f (t x)))
 afQ : ∀ x y, AF P qF [f x, f y] (.own (eB (q x y)))

section
variable {P : Program} (hm : P.follows .mixedOrders = true)

theorem encI : Enc eI 1 false := ⟨by omega, fun _ => rfl, fun _ => rfl, fun _ => rfl⟩
theorem noI (n : Int) : (eI n).flat = true := rfl
def famP {α : Type} {f : α → D} {bytes : Nat} {z : D} {sF tF qF : Nat} (e : Enc f 1 false) (hno : ∀ x, (f x).flat = true) (hz : z.size = 1 ∧ z.noPtr = true ∧ z.isAg = false) (hby : bytes ≤ 64)
  (rs : resF P sF = some (12, cSzP, [.t 4])) (rt : resF P tF = some (22, cToS bytes z, [.t 2])) (q : List α → List α → Bool) (hq : ∀ x, q x x = true)
  (aq : ∀ a b : SL α, AF P qF [eS 1 f a, eS 1 f b] (.own (eB (q a.2 b.2)))) : Fam P (eS 1 f) sF tF qF where
 s x l := cut (l - x.2.length)
 t x := (some false, x.2)
 q a b := q a.2 b.2
 fit x := x.2.length ≤ 1048576
 s_in x l h1 h2 := ⟨cut_ge _, cut_le (by omega) (by omega)⟩
 s_fit x l h1 h2 h3 := by
  have := (cut_nonneg h3).1
  omega
 q_refl x := hq x.2
 afS x l h1 h2 := by
  have := af_szP hm rs (sz := 1) x.1 (x.2.map f) l (by omega) h2
  rw [lM] at this
  exact this
 afT x h := af_toS hm e hno hz rt x (by
  have : bytes * x.2.length ≤ 64 * 1048576 := Nat.mul_le_mul hby h
  omega)
 afQ a b := aq a b

def famC {α : Type} {f : α → D} {sz bytes : Nat} {agg : Bool} {z : D} {sF tF qF sF' tF' qF' : Nat} (k : Fam P f sF tF qF) (e : Enc f sz agg) (hz : z.size = sz ∧ z.noPtr = true ∧ z.isAg = agg) (hby : bytes ≤ 1024)
  (rs : resF P sF' = some (27, cSzC sF sz agg, [.t 4])) (rt : resF P tF' = some (23, cToC tF sz bytes agg z, [.t 2])) (rq : resF P qF' = some (27, cEqC qF sz agg, [.t 4])) : Fam P (eS sz f) sF' tF' qF' where
 s := szS k.s
 t x := (some false, x.2.map k.t)
 q a b := eqL k.q a.2 b.2
 fit x := x.2.length ≤ 1048576 ∧ ∀ y ∈ x.2, k.fit y
 s_in x l h1 h2 := szS_in (fun y _ => k.s_in y) h1 h2
 s_fit x l h1 h2 h3 := szS_fit (fun y _ => k.s_in y) (fun y _ => k.s_fit y) h1 h2 h3
 q_refl x := eqL_refl fun y _ => k.q_refl y
 afS x l h1 h2 := af_szC hm e rs k.s x (fun y _ l' g1 g2 => ⟨k.afS y l' g1 g2, (k.s_in y l' g1 g2).1, by have := (k.s_in y l' g1 g2).2; omega⟩) l (by omega) h2
 afT x h := af_toC hm e e hz rt x (by
  have : bytes * x.2.length ≤ 1024 * 1048576 := Nat.mul_le_mul hby h.1
  have := h.1
  omega) (fun y hy => k.afT y (h.2 y hy))
 afQ a b := af_eqC hm e rq k.q a b fun x _ y _ => k.afQ x y
end

def memN : List Nat → Nat → Bool
 | [], _ => false
 | a :: l, k => if a = k then true else memN l k
@[go_sem] theorem memN_nil {k : Nat} : memN [] k = false := rfl
@[go_sem] theorem memN_cons {a k : Nat} {l : List Nat} : memN (a :: l) k = if a = k then true else memN l k := rfl

def keep (ks : List Nat) : List (Nat × AV) → List (Nat × AV)
 | [] => []
 | (k, v) :: r => if memN ks k = true then keep ks r else (k, v) :: keep (k :: ks) r
@[go_sem] theorem keep_nil {ks : List Nat} : keep ks [] = [] := rfl
@[go_sem] theorem keep_cons {ks : List Nat} {k : Nat} {v : AV} {r : List (Nat × AV)} : keep ks ((k, v) :: r) = if memN ks k = true then keep ks r else (k, v) :: keep (k :: ks) r := rfl
theorem memN_iff {k : Nat} : ∀ {l : List Nat}, memN l k = true ↔ k ∈ l
 | [] => by simp [memN]
 | a :: l => by
  simp only [memN]
  split
  ·next h => simp [h]
  ·next h => rw [memN_iff]; simp [Ne.symm h]
theorem keep_sub {e : List (Nat × AV)} : ∀ {ks : List Nat} {r : List (Nat × AV)}, (∀ t, t ∉ ks → lk e t = lk r t) → subEnv e (keep ks r)
 | _, [], _ => trivial
 | ks, (k, v) :: r, h => by
  simp only [keep]
  split
  ·next hk =>
   refine keep_sub fun t ht => ?_
   rw [h t ht]
   have : k ≠ t := by rintro rfl; exact ht (memN_iff.1 hk)
   simp [lk, this]
  ·next hk =>
   refine ⟨by rw [h k (fun hm => hk (memN_iff.2 hm))]; simp [lk], keep_sub fun t ht => ?_⟩
   simp only [List.mem_cons, not_or] at ht
   rw [h t ht.2]
   simp [lk, Ne.symm ht.1]
theorem subEnv_append {e : List (Nat × AV)} : ∀ {a b : List (Nat × AV)}, subEnv e a → subEnv e b → subEnv e (a ++ b)
 | [], _, _, h => h
 | (_, _) :: _, _, h1, h2 => ⟨h1.1, subEnv_append h1.2 h2⟩

theorem vc_on {P : Program} {c : RC} {K : Exit → St → Prop} {α : Type} {n : Nat} {env : List (Nat × AV)} {us : List (Nat × U)} (ks : List Nat) (upd : α → List (Nat × AV)) (J : α → Prop) (μ : α → Nat) (x0 : α)
  (h0 : subEnv env (upd x0)) (hJ : J x0)
  (h : ∀ x, J x → vcR P c ⟨n, upd x ++ keep ks env, us⟩ (kseq (fun s => ∃ y, J y ∧ μ y < μ x ∧ Ent s ⟨n, upd y ++ keep ks env, us⟩) K)) : vcR P (.loop c) ⟨n, env, us⟩ K :=
 vc_loop (fun x => ⟨n, upd x ++ keep ks env, us⟩) J μ x0 (Ent.env (subEnv_append h0 (keep_sub fun _ _ => rfl))) hJ h

theorem Ent.env_us {n : Nat} {e e' : List (Nat × AV)} {us us' : List (Nat × U)} (hu : us = us') (h : subEnv e e') : Ent ⟨n, e, us⟩ ⟨n, e', us'⟩ := hu ▸ Ent.env h

theorem all_take_succ {α : Type} {p : α → Bool} {l : List α} {i : Nat} (hi : i < l.length) (h : (l.take i).all p = true) (hx : p l[i] = true) : (l.take (i + 1)).all p = true := by
 rw [List.take_succ_eq_append_getElem hi, List.all_append, h]
 simp [hx]
theorem all_of_take {α : Type} {p : α → Bool} {l : List α} {i : Nat} (hi : ¬ i < l.length) (h : (l.take i).all p = true) : l.all p = true := by
 rwa [List.take_of_length_le (by omega)] at h
theorem all_fail {α : Type} {p : α → Bool} {l : List α} {i : Nat} (hi : i < l.length) (hx : p l[i] = false) : l.all p = false :=
 List.all_eq_false.2 ⟨l[i], List.getElem_mem hi, by simp [hx]⟩
theorem bd_ls {nn : Option Bool} {sz : Nat} {ds : List D} (h : D.bd (.ls nn sz ds)) : ds.length ≤ 9223372036854775807 := by simp only [D.bd, maxEl] at h; exact h.1

def nx (x : Int) (k : Int → Int) : Int := if x < 0 then -1 else k x
theorem nx_neg {x : Int} {k : Int → Int} (h : x < 0) : nx x k = -1 := if_pos h
theorem nx_pos {x : Int} {k : Int → Int} (h : ¬ x < 0) : nx x k = k x := if_neg h
theorem nx_in {x l : Int} {k : Int → Int} (hx : -1 ≤ x ∧ x ≤ l) (h0 : 0 ≤ l) (h1 : l ≤ 1048576) (hk : ∀ y, 0 ≤ y → y ≤ l → -1 ≤ k y ∧ k y ≤ l) : -1 ≤ nx x k ∧ nx x k ≤ l := by
 by_cases h : x < 0
 ·rw [nx_neg h]; omega
 ·rw [nx_pos h]; exact hk x (by omega) hx.2
theorem in_tr {a y l : Int} (h : y ≤ l) (h' : -1 ≤ a ∧ a ≤ y) : -1 ≤ a ∧ a ≤ l := ⟨h'.1, by omega⟩
theorem nx_fit {x : Int} {k : Int → Int} (h : 0 ≤ nx x k) : 0 ≤ x ∧ 0 ≤ k x := by
 by_cases h' : x < 0
 ·rw [nx_neg h'] at h; omega
 ·rw [nx_pos h'] at h; omega
end Go.Ax
namespace Go.Ax
set_option linter.unusedSimpArgs false

section
variable {P : Program} (hm : P.follows .mixedOrders = true)
include hm
end
end Go.Ax
namespace Go.Ax
set_option linter.unusedSimpArgs false
open Go.ChangeShapes Go.WideShapes Go.RowKit

section
variable {P : Program}

def Rd (P : Program) (n : Nat) (t : TypeId) {α : Type} (f : α → D) (ok : α → Prop) : Prop :=
 ∀ (H : Type) (enc : TypeId × Value → H) (w : World) (cs : List Value) (x : DataW H × List MemPlace),
  DataW.trod enc P w 0 (fun _ => true) true n t cs = some x → ∃ a F, Rep w.heap (f a) F cs ∧ ok a

theorem rd_zero {t : TypeId} {α : Type} {f : α → D} {ok : α → Prop} : Rd P 0 t f ok := by
 intro H enc w cs x h
 simp [DataW.trod] at h

theorem rd_map {n : Nat} {t : TypeId} {α β : Type} {f : α → D} {ok : α → Prop} {f' : β → D} {ok' : β → Prop} (g : α → β) (h1 : ∀ a, f' (g a) = f a) (h2 : ∀ a, ok a → ok' (g a)) (h : Rd P n t f ok) : Rd P n t f' ok' := by
 intro H enc w cs x hx
 obtain ⟨a, F, r, o⟩ := h _ enc w cs x hx
 exact ⟨g a, F, by rw [h1]; exact r, h2 a o⟩

theorem rd_int {n : Nat} {t : TypeId} {k : IntKind} (ht : P.underlying t = some (.int k)) : Rd P n t (fun m : Int => .sc (.int k m)) (fun m => (Lit.int k m).wf = true) := by
 intro H enc w cs x h
 obtain ⟨m, rfl, _, hw⟩ := DataW.trod_int ht h
 exact ⟨m, [], by simp [Rep, Value.oneCell'], hw⟩

theorem rd_bool {n : Nat} {t : TypeId} (ht : P.underlying t = some .bool) : Rd P n t (fun b : Bool => .sc (.bool b)) (fun _ => True) := by
 intro H enc w cs x h
 obtain ⟨b, rfl, _⟩ := DataW.trod_bool ht h
 exact ⟨b, [], by simp [Rep, Value.oneCell'], trivial⟩

theorem add_block (a : Addr) (i : Nat) : (a.add i).block = a.block := by
 unfold Addr.add
 split <;> rfl

theorem add_off (a : Addr) (i : Nat) : (a.add i).off = a.off + i := by
 unfold Addr.add
 split <;> simp_all

theorem cells_at {w : World} {a : Addr} {n : Nat} {cs : List Value} (h : w.cells? 0 a n = some cs) (hn : 0 < n) :
  ∃ c e fr, w.heap[a.block]? = some (.cells c e fr) ∧ a.spot = none ∧ a.off + n ≤ c.size ∧ cs = (c.toList.drop a.off).take n := by
 unfold World.cells? at h
 rw [if_pos (Nat.zero_le _)] at h
 have hl : cs.length = n := by simpa using mapM_len h
 have hg : ∀ i, i < n → w.cell? (a.add i) = cs[i]? := by
  intro i hi
  obtain ⟨b, h1, h2⟩ := mapM_get h i i (by simp [hi])
  rw [h1, h2]
 have h0 := hg 0 hn
 rw [List.getElem?_eq_getElem (by omega)] at h0
 cases hb : w.heap[a.block]? with
 | none => simp [World.cell?, add_block, hb] at h0
 | some o =>
  cases o with
  | cells c e fr =>
   have hsp : a.spot = none := by
    cases hs : a.spot with
    | none => rfl
    | some s => simp [World.cell?, Addr.add, hb, hs] at h0
   have hc : ∀ i, i < n → c[a.off + i]? = cs[i]? := by
    intro i hi
    have := hg i hi
    have hs2 : (a.add i).spot.isSome = false := by
     cases hs2 : (a.add i).spot.isSome with
     | false => rfl
     | true =>
      rw [List.getElem?_eq_getElem (by omega)] at this
      simp [World.cell?, add_block, hb, hs2] at this
    simpa [World.cell?, add_block, add_off, hb, hs2] using this
   have hlast := hc (n - 1) (by omega)
   rw [List.getElem?_eq_getElem (by omega)] at hlast
   have hle := (Array.getElem?_eq_some_iff.1 hlast).1
   refine ⟨c, e, fr, rfl, hsp, by omega, ?_⟩
   apply List.ext_getElem?
   intro i
   by_cases hi : i < n
   ·rw [← hc i hi, List.getElem?_take_of_lt hi, List.getElem?_drop, Array.getElem?_toList]
   ·rw [List.getElem?_eq_none (by omega), List.getElem?_eq_none (by simp; omega)]
  | _ => simp [World.cell?, add_block, hb] at h0

theorem repL_rows {h : Heap} {α : Type} {f : α → D} {ok : α → Prop} {c : List Value} {sz : Nat} :
  ∀ (m o : Nat), (∀ i, i < m → ∃ a F, Rep h (f a) F ((c.drop (o + i * sz)).take sz) ∧ ok a) →
   ∃ (as : List α) (F : List Nat), as.length = m ∧ RepL h (as.map f) F ((c.drop o).take (m * sz)) ∧ ∀ a ∈ as, ok a
 | 0, o, _ => ⟨[], [], rfl, by simp [RepL], by simp⟩
 | m + 1, o, hr => by
  obtain ⟨a, F, h1, h2⟩ := hr 0 (by omega)
  obtain ⟨as, F', h3, h4, h5⟩ := repL_rows m (o + sz) fun i hi => by
   have := hr (i + 1) (by omega)
   rw [show o + (i + 1) * sz = o + sz + i * sz by rw [Nat.add_mul]; omega] at this
   exact this
  refine ⟨a :: as, F ++ F', by simp [h3], ?_, by simp; exact ⟨h2, h5⟩⟩
  simp only [lC, RepL]
  refine ⟨F, F', _, _, rfl, ?_, by simpa using h1, h4⟩
  rw [show (m + 1) * sz = sz + m * sz by rw [Nat.add_mul]; omega, List.take_add, List.drop_drop]

theorem rd_slice {n : Nat} {t e : TypeId} {sz : Nat} {α : Type} {f : α → D} {ok : α → Prop} (ht : P.underlying t = some (.slice e)) (hs : P.cellsOf e = sz) (h0 : 0 < sz) (hf : ∀ a, (f a).size = sz)
  (h : Rd P n e f ok) : Rd P (n + 1) t (eS sz f) (fun s => ((s.1 = some true → s.2 = []) ∧ s.1.isSome = true) ∧ s.2.length ≤ maxEl ∧ ∀ a ∈ s.2, ok a) := by
 intro H enc w cs x hx
 rcases DataW.trod_slice ht hx with ⟨rfl, rfl⟩ | ⟨a, len, cap, elems, rest, m, hm, rfl, rfl, hb, hlc, hcm, hlen, hel, hre, _⟩
 ·refine ⟨(some true, []), [], ?_, by simp, by simp [maxEl], by simp⟩
  simp only [Rep, eS]
  exact .inl ⟨none, by simp⟩
 ·obtain rfl : n = m := by omega
  obtain ⟨hrl, hre⟩ := hre rfl
  by_cases hc0 : cap = 0
  ·subst hc0
   obtain rfl : len = 0 := by omega
   refine ⟨(some false, []), [], ?_, by simp, by simp [maxEl], by simp⟩
   simp only [Rep, eS]
   exact .inl ⟨some a, by simp⟩
  ·have hany : ∀ j, j < cap → ∃ c, w.cells? 0 (a.add (j * sz)) sz = some c ∧ ∃ y, DataW.trod enc P w 0 (fun _ => true) true n e c = some y := by
    intro j hj
    rw [hs] at hel hre
    by_cases hjl : j < len
    ·have := hel j hjl
     rw [List.getElem?_eq_getElem (by omega), oB] at this
     obtain ⟨c, h1, h2⟩ := this
     exact ⟨c, h1, _, h2⟩
    ·have := hre (j - len) (by omega)
     rw [List.getElem?_eq_getElem (by omega), oB, show len + (j - len) = j by omega] at this
     obtain ⟨c, h1, h2⟩ := this
     exact ⟨c, h1, _, h2⟩
   obtain ⟨c1, hc1, _⟩ := hany (cap - 1) (by omega)
   obtain ⟨c, e', fr, hbk, _, hsz, _⟩ := cells_at hc1 h0
   obtain ⟨c2, hc2, _⟩ := hany 0 (by omega)
   obtain ⟨_, _, _, _, hsp, _, _⟩ := cells_at hc2 h0
   simp only [Nat.zero_mul, show ∀ a : Addr, a.add 0 = a from fun a => by simp [Addr.add]] at hsp
   simp only [add_block, add_off] at hbk hsz
   have hall : a.off + cap * sz ≤ c.size := by
    have : cap * sz = (cap - 1) * sz + sz := by
     conv => lhs; rw [show cap = cap - 1 + 1 by omega, Nat.add_mul, Nat.one_mul]
    omega
   obtain ⟨as, F, q1, q2, q3⟩ := repL_rows (h := w.heap) (f := f) (ok := ok) (c := c.toList) (sz := sz) len a.off fun i hi => by
    obtain ⟨ci, hci, y, hy⟩ := hany i (by omega)
    obtain ⟨c', e'', fr', hbk', _, _, hcs⟩ := cells_at hci h0
    simp only [add_block, add_off] at hbk' hcs
    rw [hbk] at hbk'
    cases hbk'
    obtain ⟨z, F, r1, r2⟩ := h _ enc w ci y hy
    exact ⟨z, F, by rw [← hcs]; exact r1, r2⟩
   refine ⟨(some false, as), a.block :: F, ?_, by simp, by simp [q1]; exact Nat.le_trans (Nat.le_trans hlc hcm) (by decide), q3⟩
   simp only [Rep, eS]
   refine .inr ⟨a.block, a.off, cap, c, e', fr, F, ?_, rfl, by simp, by simp [q1, hlc], by simp [q1]; exact Nat.le_trans (Nat.le_trans hlc hcm) (by decide), hbk, hall, ?_, by simpa [q1] using q2⟩
   ·rw [lM, q1]
    congr 3
    cases a
    simp_all
   ·intro d hd
    obtain ⟨z, _, rfl⟩ := List.mem_map.1 hd
    exact hf z

def RdF (P : Program) (n : Nat) (fs : List Field) (off : Nat) {α : Type} (f : α → List D) (ok : α → Prop) : Prop :=
 ∀ (H : Type) (enc : TypeId × Value → H) (w : World) (cs : List Value), cs.length = off + ((fs.map fun g => P.cellsOf g.type).foldr (· + ·) 0) →
  (∀ g ∈ fs, ∃ x : DataW H × List MemPlace, DataW.trod enc P w 0 (fun _ => true) true n g.type ((cs.drop g.offset).take (P.cellsOf g.type)) = some x) →
  ∃ a F, RepL w.heap (f a) F (cs.drop off) ∧ ok a

theorem rdf_cell {n : Nat} {g : Field} {fs : List Field} {off k : Nat} {α β : Type} {f : α → D} {ok : α → Prop} {f' : β → List D} {ok' : β → Prop} (ho : g.offset = off) (hk : P.cellsOf g.type = k)
  (h : Rd P n g.type f ok) (h' : RdF P n fs (off + k) f' ok') : RdF P n (g :: fs) off (fun p : α × β => f p.1 :: f' p.2) (fun p => ok p.1 ∧ ok' p.2) := by
 intro H enc w cs hl hx
 subst ho hk
 obtain ⟨x, hx0⟩ := hx g (by simp)
 obtain ⟨a, F, r, o⟩ := h _ enc w _ x hx0
 obtain ⟨b, F', r', o'⟩ := h' _ enc w cs (by simp only [lC, List.foldr_cons] at hl; omega) fun g' hg' => hx g' (by simp [hg'])
 refine ⟨(a, b), F ++ F', ?_, o, o'⟩
 simp only [RepL]
 exact ⟨F, F', _, _, rfl, by rw [← List.drop_drop, List.take_append_drop], r, r'⟩

theorem rdf_cell1 {n : Nat} {g : Field} {off : Nat} {α : Type} {f : α → D} {ok : α → Prop} (ho : g.offset = off)
  (h : Rd P n g.type f ok) : RdF P n [g] off (fun p : α => [f p]) ok := by
 intro H enc w cs hl hx
 subst ho
 obtain ⟨x, hx0⟩ := hx g (by simp)
 obtain ⟨a, F, r, o⟩ := h _ enc w _ x hx0
 refine ⟨a, F, ?_, o⟩
 simp only [RepL]
 refine ⟨F, [], _, [], by simp, ?_, r, rfl, rfl⟩
 simp only [lC, lN, List.foldr_cons, List.foldr_nil] at hl
 rw [List.append_nil, List.take_of_length_le (by simp; omega)]

theorem rdf_ag {n : Nat} {g : Field} {fs : List Field} {off k : Nat} {α β : Type} {f : α → List D} {ok : α → Prop} {f' : β → List D} {ok' : β → Prop} (ho : g.offset = off) (hk : P.cellsOf g.type = k)
  (h : Rd P n g.type (fun a => .ag (f a)) ok) (h' : RdF P n fs (off + k) f' ok') : RdF P n (g :: fs) off (fun p : α × β => f p.1 ++ f' p.2) (fun p => ok p.1 ∧ ok' p.2) := by
 intro H enc w cs hl hx
 subst ho hk
 obtain ⟨x, hx0⟩ := hx g (by simp)
 obtain ⟨a, F, r, o⟩ := h _ enc w _ x hx0
 obtain ⟨b, F', r', o'⟩ := h' _ enc w cs (by simp only [lC, List.foldr_cons] at hl; omega) fun g' hg' => hx g' (by simp [hg'])
 refine ⟨(a, b), F ++ F', ?_, o, o'⟩
 simp only [Rep] at r
 rw [← List.take_append_drop (P.cellsOf g.type) (cs.drop g.offset), List.drop_drop]
 exact RepL.append r.2 r'

theorem rd_struct {n : Nat} {t : TypeId} {fs : Array Field} {α : Type} {f : α → List D} {ok : α → Prop} (ht : P.underlying t = some (.struct fs)) (hc : P.cellsOf t = (fs.toList.map fun g => P.cellsOf g.type).foldr (· + ·) 0)
  (hf : ∀ a, ∀ d ∈ f a, d.size = 1 ∧ d.isAg = false) (h : RdF P n fs.toList 0 f ok) : Rd P (n + 1) t (fun a => .ag (f a)) ok := by
 intro H enc w cs x hx
 obtain ⟨xs, m, hm, rfl, hl, hxl, hg⟩ := DataW.trod_struct ht hx
 obtain rfl : n = m := by omega
 obtain ⟨a, F, r, o⟩ := h _ enc w cs (by omega) fun g hgm => by
  obtain ⟨i, hi, rfl⟩ := List.getElem_of_mem hgm
  have hi' : i < fs.size := by simpa using hi
  have := hg i fs[i] (by simp [hi'])
  rw [List.getElem?_eq_getElem (by omega)] at this
  exact ⟨_, by simpa using this⟩
 refine ⟨a, F, ?_, o⟩
 simp only [Rep]
 exact ⟨hf a, by simpa using r⟩

def Arg (P : Program) (t : TypeId) {α : Type} (f : α → D) (ok : α → Prop) : Prop :=
 (∀ n, Rd P n t f ok) ∧ (((∀ a, (f a).isAg = true) ∧ ∃ fs, P.underlying t = some (.struct fs)) ∨
  ((∀ a, (f a).isAg = false) ∧ (match P.underlying t with | some (.struct _) | some (.array _ _) => false | _ => true) = true))

theorem rep_one {h : Heap} {d : D} {F : List Nat} {cs : List Value} (hr : Rep h d F cs) (hd : d.isAg = false) : ∃ c, cs = [c] ∧ c.oneCell' = true := by
 cases d with
 | sc v => simp only [Rep] at hr; exact ⟨v, hr.2.1, hr.2.2⟩
 | ag ds => simp [D.isAg] at hd
 | ls nn sz ds =>
  simp only [Rep] at hr
  rcases hr with ⟨p, rfl, _⟩ | ⟨b, off, cap, c, e, fr, F', rfl, _⟩
  ·exact ⟨_, rfl, rfl⟩
  ·exact ⟨_, rfl, rfl⟩
 | pt d j =>
  simp only [Rep] at hr
  obtain ⟨b, off, c, e, fr, F', rfl, _⟩ := hr
  exact ⟨_, rfl, rfl⟩
 | jk => simp only [Rep] at hr; obtain ⟨_, v, rfl, hv⟩ := hr; exact ⟨v, rfl, hv⟩
 | fn f ds => simp only [Rep] at hr; obtain ⟨vs, rfl, _⟩ := hr; exact ⟨_, rfl, rfl⟩
 | lc b o d => simp only [Rep] at hr; rcases hr.1 with ⟨_, _, rfl⟩ | rfl <;> exact ⟨_, rfl, rfl⟩

theorem arg_of {t : TypeId} {α : Type} {f : α → D} {ok : α → Prop} (ha : Arg P t f ok) {H : Type} {enc : TypeId × Value → H} {w : World} {b : Nat} {v : Value} {d : DataW H} {ps : List MemPlace}
  (ho : Value.okWide P w .any b t v) (h : DataW.Trod enc P w 0 (fun _ => true) true t v d ps) : ∃ a F, Rep w.heap (f a) F v.cells.toList ∧ (f a).fits v ∧ ok a := by
 obtain ⟨n, hn⟩ := h
 obtain ⟨a, F, r, o⟩ := ha.1 n _ enc w _ _ hn
 refine ⟨a, F, r, ?_, o⟩
 rcases ha.2 with ⟨h1, fs, hs⟩ | ⟨h1, h2⟩
 ·simp only [Value.okWide, hs] at ho
  obtain ⟨cs, rfl, _⟩ := ho
  have h1 := h1 a
  cases hd : f a with
  | ag ds => exact ⟨_, rfl⟩
  | _ => simp [hd, D.isAg] at h1
 ·have h1 := h1 a
  obtain ⟨c, hc, hc1⟩ := rep_one r h1
  have hv : v.oneCell' = true := by
   cases v with
   | agg cs =>
    exfalso
    cases hu : P.underlying t with
    | none => simp [Value.okWide, hu, Cell.okWide, Cell.ok] at ho
    | some u => cases u <;> simp_all [Value.okWide, Cell.okWide, Cell.ok]
   | _ => simp_all [Value.cells]
  cases hd : f a with
  | ag ds => simp [hd, D.isAg] at h1
  | _ => exact hv

theorem args_one {t : TypeId} {α : Type} {f : α → D} {ok : α → Prop} (ha : Arg P t f ok) {H : Type} {enc : TypeId × Value → H} {w : World} {b : Nat} {args : Array Value} {ds : List (DataW H)} {ps : List MemPlace}
  (ho : ∀ (j : Nat) u v, [t][j]? = some u → args[j]? = some v → Value.okWide P w .any b u v) (h : DataW.TrodAll enc P w 0 (fun _ => true) true [t] args.toList ds ps) :
  ∃ a, ArgsRep w.heap (fun _ => True) [f a] args.toList ∧ ok a := by
 obtain ⟨v, d, rfl, rfl, h1⟩ := trodAll_one h
 obtain ⟨a, F, r, q, o⟩ := arg_of ha (ho 0 t v rfl rfl) h1
 exact ⟨a, by simp only [ArgsRep]; exact ⟨v, [], F, rfl, r, q, fun _ _ => trivial, rfl⟩, o⟩

theorem trodAll_below {H : Type} {enc : TypeId × Value → H} (hl : laidOutB P = true) {W W' : World} (hb : Below W.heap.size W W') {sp : Nat → Bool} :
  ∀ {ts : List TypeId} {vs : List Value} {ds : List (DataW H)} {ps : List MemPlace}, (∀ t ∈ ts, P.readableRec t = true ∧ t < P.types.size) → (∀ x ∈ ps, x.block < W.heap.size) → (∀ x ∈ ps, sp x.block = true) →
   DataW.TrodAll enc P W 0 (fun _ => true) true ts vs ds ps → DataW.TrodAll enc P W' 0 sp true ts vs ds ps
 | [], _, _, _, _, _, _, h => by
  obtain ⟨rfl, rfl, rfl⟩ := trodAll_nil h
  rfl
 | t :: ts, _, _, _, ht, hlt, hs, h => by
  obtain ⟨v, vs, d, ds, p, q, rfl, rfl, rfl, h1, h2⟩ := trodAll_cons h
  exact ⟨p, q, WideElems.Trod_stays hl (ht t (by simp)).1 (ht t (by simp)).2 h1 (fun x hx => hb.same (hlt x (by simp [hx]))) (fun x hx => hs x (by simp [hx])),
   trodAll_below hl hb (fun t' h' => ht t' (by simp [h'])) (fun x hx => hlt x (by simp [hx])) (fun x hx => hs x (by simp [hx])) h2, rfl⟩

theorem post_true {f : Func} {s : ChangeSpec} {H : Type} {enc : TypeId × Value → H} {t : TypeId} {W W' : World} {args : Array Value} {ds gs : List (DataW H)} {before : List MemPlace}
  (hl : laidOutB P = true) (hvars : s.vars = []) (hres : f.resultTypes = #[t]) (ht : P.underlying t = some .bool) (hp : ∀ t ∈ f.params.toList, P.readableRec t = true ∧ t < P.types.size)
  (hs : (s.fn H (ds ++ gs)).results = [.lit (.bool true)] ∧ (s.fn H (ds ++ gs)).args = ds ∧ (s.fn H (ds ++ gs)).vars = [])
  (hW : DataW.Whole enc P f.params.toList s.vars false W args.toList ds gs before) (hb : Below W.heap.size W W') :
  s.post enc P f false true false false W args (.bool true) W' := by
 have hlt := hW.lt
 obtain ⟨p, q, h1, h2, rfl, h3, h4⟩ := id hW
 rw [hvars] at h2
 obtain ⟨rfl, rfl⟩ := trodVars_none h2
 simp only [List.append_nil] at hlt
 refine ⟨ds, [], p ++ [], [], p, [], hW, ?_, ?_, ?_, World.keptBut_mono (fun x hx => ⟨hx, .inr (.inl (by simpa using hx))⟩) (hb.frame (· ∈ p ++ [])), fun h => by cases h⟩
 ·rw [hs.1, hres]
  refine trodAll_mk1 ?_
  exact ⟨1, by simp [Value.cells, DataW.trod, ht]⟩
 ·rw [hs.2.1]
  exact trodAll_below hl hb hp hlt (fun x hx => by simpa using hlt x hx) h1
 ·rw [hs.2.2, hvars]
  rfl

end
end Go.Ax
attribute [go_sem] decide_true decide_false and_self true_and and_true false_and and_false not_true_eq_false not_false_eq_true false_implies true_implies implies_true ge_iff_le Bool.false_eq_true List.cons_append List.nil_append
namespace Go.Ax
abbrev D.ze : D := .ag [.sc (.int .i64 0), .sc (.int .i64 0), .ls (some true) 3 []]
abbrev D.zp : D := .ag [.sc (.int .i64 0), .sc (.int .i64 0), .sc (.int .i64 0), .sc (.int .i64 0), .ls (some true) 3 [], .ls (some true) 6 []]
abbrev X.cf : X := .c (.sc (.bool false))
abbrev X.ct : X := .c (.sc (.bool true))
abbrev X.ci (n : Int) : X := .c (.sc (.int .i64 n))
abbrev RO.m (d s : Nat) : RO := ⟨none, .mv d (.t s)⟩
abbrev RO.f (d o s : Nat) : RO := ⟨none, .fa d o (.t s)⟩
abbrev RO.l (d z s : Nat) : RO := ⟨none, .ld d false z (.t s)⟩
abbrev RO.L (d z s : Nat) : RO := ⟨none, .ld d true z (.t s)⟩
abbrev RO.q (d s : Nat) (n : Int) : RO := ⟨none, .bin d .eql (.t s) (.ci n)⟩
abbrev RO.k (d c a : Nat) : RO := ⟨none, .pick d (.t c) (.t a) .cf⟩
abbrev RO.s (z a x : Nat) : RO := ⟨none, .st z (.t a) (.t x)⟩
abbrev RO.n (d s : Nat) : RO := ⟨none, .nck d (.t s)⟩
abbrev RO.b (d z s : Nat) : RO := ⟨none, .box d z (.t s)⟩
abbrev RO.i (d z s : Nat) (n : Int) : RO := ⟨none, .ia d z (.t s) (.ci n)⟩
abbrev RO.o (o : ROp) : RO := ⟨none, o⟩
abbrev RO.w (n : Nat) (o : ROp) : RO := ⟨some (n, true), o⟩
abbrev RO.u (n : Nat) (o : ROp) : RO := ⟨some (n, false), o⟩
abbrev RC.r (l : List RO) : RC := .reg false l
abbrev RO.c (d f : Nat) (l : List X) : RO := ⟨none, .call (some d) f l⟩
abbrev RO.v (d : Nat) (x : X) : RO := ⟨none, .mv d x⟩
abbrev RO.wm (n d s : Nat) : RO := ⟨some (n, true), .mv d (.t s)⟩
attribute [go_sem] D.ze D.zp X.cf X.ct X.ci RO.m RO.f RO.l RO.L RO.q RO.k RO.s RO.n RO.b RO.i RO.o RO.w RO.u RC.r RO.c RO.v RO.wm
end Go.Ax
