/- Contracts of functions of the seat, proved over the engine. No condition. -/
import Derived.Test.YtjnghfepojipiaaX45
import Derived.Test.YtjnghfepojipiaaX31
set_option linter.unusedSimpArgs false
set_option linter.unusedVariables false
set_option linter.unnecessarySimpa false
namespace Go.Ax
set_option linter.unusedSimpArgs false
set_option maxRecDepth 20000
set_option maxHeartbeats 4000000

theorem Ent.unt {n : Nat} {e : List (Nat × AV)} {us : List (Nat × U)} (k : Nat) {t : Option Nat} {v : Value} (h : lk e k = .im t (.sc v)) : Ent ⟨n, e, us⟩ ⟨n, (k, .im none (.sc v)) :: e, us⟩ := by
 intro n0 S0 M0 w0 a w hs
 obtain ⟨g, hu, hv⟩ := hs.gh
 refine ⟨hs.ms, hs.dfr, hs.tm, hs.base, hs.os, hs.tape, hs.output, hs.size, hs.old, g, hu, fun x => ?_⟩
 by_cases hx : k = x
 ·subst hx
  have h2 := hv k
  simp only [h] at h2
  simp only [lk, if_true]
  simp only [VRep] at h2 ⊢
  obtain ⟨F, r1, r2, _⟩ := h2
  refine ⟨[], ?_, r2, by simp⟩
  simp only [Rep] at r1 ⊢
  exact ⟨trivial, r1.2⟩
 ·simp only [lk, if_neg hx]
  exact hv x
def fI (p : Int → Bool) (l : List Int) : Nat → Int
 | 0 => -1
 | k + 1 => if p (l.getD (l.length - (k + 1)) 0) = true then ((l.length - (k + 1) : Nat) : Int) else fI p l k
theorem fI_step {p : Int → Bool} {l : List Int} {i : Nat} (h : i < l.length) : fI p l (l.length - i) = if p (l.getD i 0) = true then (i : Int) else fI p l (l.length - (i + 1)) := by
 rw [show l.length - i = (l.length - (i + 1)) + 1 by omega]
 simp only [fI]
 rw [show l.length - (l.length - (i + 1) + 1) = i by omega]
theorem fI_pos {p : Int → Bool} {l : List Int} : ∀ {k : Nat}, k ≤ l.length → decide (fI p l k ≥ 0) = (l.drop (l.length - k)).any p
 | 0, _ => by simp [fI]
 | k + 1, h => by
  have hi : l.length - (k + 1) < l.length := by omega
  rw [List.drop_eq_getElem_cons hi]
  have e1 : l.getD (l.length - (k + 1)) 0 = l[l.length - (k + 1)] := by simp [hi]
  have ih := fI_pos (p := p) (l := l) (k := k) (by omega)
  simp only [fI, e1, List.any_cons]
  rw [show l.length - (k + 1) + 1 = l.length - k by omega, ← ih]
  by_cases hp : p l[l.length - (k + 1)] = true
  ·rw [if_pos hp, hp, Bool.true_or]
   exact decide_eq_true (by omega)
  ·rw [if_neg hp, Bool.eq_false_iff.2 hp, Bool.false_or]
theorem fI_any {p : Int → Bool} {l : List Int} : decide (fI p l l.length ≥ 0) = l.any p := by rw [fI_pos (Nat.le_refl _), Nat.sub_self, List.drop_zero]
theorem fI_nil {p : Int → Bool} {l : List Int} : fI p l (l.length - l.length) = -1 := by rw [Nat.sub_self]; rfl
theorem any_take {p : Int → Bool} {l : List Int} {i : Nat} (h : i < l.length) : (l.take (i + 1)).any p = ((l.take i).any p || p (l.getD i 0)) := by
 rw [List.take_succ_eq_append_getElem h, List.any_append]
 simp [h]
def imL (f : Nat → Bool) (n : Nat) : List Int := ((List.range n).filter f).map fun (i : Nat) => (i : Int)
theorem imL_t {f : Nat → Bool} {n : Nat} (h : f n = true) : imL f (n + 1) = imL f n ++ [(n : Int)] := by simp [imL, List.range_succ, h]
theorem imL_f {f : Nat → Bool} {n : Nat} (h : f n = false) : imL f (n + 1) = imL f n := by simp [imL, List.range_succ, h]
theorem imL_len {f : Nat → Bool} {n : Nat} : (imL f n).length ≤ n := by
 have := List.length_filter_le f (List.range n)
 simpa [imL] using this
theorem imL_zero {f : Nat → Bool} : imL f 0 = [] := rfl
def iD (l : List Int) : List D := l.map eI
theorem iD_app {l : List Int} {v : Int} : iD (l ++ [v]) = iD l ++ [.sc (.int .i64 v)] := by simp [iD, eI]
theorem iD_nil : iD [] = [] := rfl
theorem iD_len {l : List Int} : (iD l).length = l.length := by simp [iD]
def hasI (l : List Int) (v : Int) : Bool := l.any fun x => v == x
def hitF (R : Rel) (s : List Int) (y : Nat) : Bool := s.any fun x => R x.toNat y
def safU (R : Rel) (s : List Int) (x z : Nat) : Bool := (List.range z).all fun y => !R x y || hasI s y
def safF (R : Rel) (s : List Int) (n x : Nat) : Bool := safU R s x n
theorem safU_succ {R : Rel} {s : List Int} {x z : Nat} : safU R s x (z + 1) = (safU R s x z && (!R x z || hasI s z)) := by simp [safU, List.range_succ]
theorem safU_zero {R : Rel} {s : List Int} {x : Nat} : safU R s x 0 = true := rfl

def askR (m : Mo) (e : Ex) (s : List Int) : Int := if okMo m = true ∧ okE m.1 e = true then (if isSetB m.2.1 s = true then 0 else 2) else 1

def setS (F : Rel → List Int → Nat → Nat → Bool) (z : Option Bool) (m : Mo) (e : Ex) (s : List Int) : SL Int × Int :=
 if askR m e s = 0 then ((some false, imL (F (relE m e) s m.2.1.toNat) m.2.1.toNat), 0) else ((z, []), askR m e s)
abbrev imgS := setS fun R s _ y => hitF R s y
abbrev safS := setS fun R s n x => safF R s n x
theorem set_mem {m : Mo} {n : Nat} {s : List Int} (hM : MoOk m n) (h : isSetB m.2.1 s = true) {x : Int} (hx : x ∈ s) : 0 ≤ x ∧ x.toNat < n ∧ x < (n : Int) := by
 have h1 := hM.pts
 simp only [isSetB, allIn, Bool.and_eq_true, List.all_eq_true, isIn_iff'] at h
 have h2 := h.2 x hx
 omega
theorem set_in {m : Mo} {n : Nat} {s : List Int} (hM : MoOk m n) (h : isSetB m.2.1 s = true) {i : Nat} (hi : i < s.length) : 0 ≤ s.getD i 0 ∧ (s.getD i 0).toNat < n ∧ s.getD i 0 < (n : Int) := by
 have h1 := hM.pts
 simp only [isSetB, allIn, Bool.and_eq_true, List.all_eq_true, isIn_iff'] at h
 have h2 := h.2 s[i] (List.getElem_mem hi)
 have h3 : s.getD i 0 = s[i] := by simp [hi]
 rw [h3]
 omega

def k_indexFI : RC := (.seq (.reg false [⟨none, .mv 4 (.c (.sc (.int .i64 0)))⟩]) ((.seq ((.seq (.reg false [⟨none, .mv 6 (.t 0)⟩, ⟨none, .len 7 (.t 6)⟩, ⟨none, .mv 8 (.c (.sc (.int .i64 0)))⟩]) (.blk 0 (.loop ((.seq (.reg false [⟨none, .bin 9 .lss (.t 8) (.t 7)⟩]) ((.seq (.cond (.t 9) (.skip) (.exit 0)) ((.seq (.blk 1 ((.seq (.reg false [⟨none, .mv 10 (.t 8)⟩, ⟨none, .mv 5 (.t 10)⟩]) ((.seq (.reg false [⟨none, .mv 11 (.t 1)⟩, ⟨none, .mv 12 (.t 0)⟩, ⟨none, .mv 13 (.t 5)⟩, ⟨none, .ia 14 1 (.t 12) (.t 13)⟩, ⟨none, .ld 15 false 1 (.t 14)⟩, ⟨none, .calv (some 16) (.t 11) [(.t 15)]⟩]) (.cond (.t 16) ((.seq (.reg false [⟨none, .mv 17 (.t 5)⟩, ⟨none, .mv 4 (.t 17)⟩]) (.ret))) (.skip))))))) (.reg false [⟨none, .bin 18 .add (.t 8) (.c (.sc (.int .i64 1)))⟩, ⟨none, .mv 8 (.t 18)⟩]))))))))))) ((.seq (.reg false [⟨none, .mv 4 (.c (.sc (.int .i64 (-1))))⟩]) (.ret))))))
def K_indexFI (P : Program) (fno : Nat) : Prop := ∀ (s : SL Int) (f : Nat) (caps : List D) (p : Int → Bool) (hf : ∀ x ∈ s.2, AF P f (eI x :: caps) (.own (eB (p x)))), AF P fno [eS 1 eI s, .fn f caps] (.own (eI (fI p s.2 s.2.length)))
theorem a_indexFI {P : Program} (hm : P.follows .mixedOrders = true) {g : Nat} (hr : resF P g = some (19, k_indexFI, [.t 4])) : K_indexFI P g := by
 intro s f caps p hf
 refine af_of_res hr hm rfl fun hb => ?_
 have hl := bd_ls hb.1
 simp only [List.length_map] at hl
 simp +contextual -implicitDefEqProofs only [k_indexFI, eS, go_sem, eI, ↓reduceIte, Nat.reduceEqDiff, Nat.reduceAdd, List.length_map]
 refine vc_onU (α := Nat) [4, 5, 8, 9, 10, 11, 12, 13, 14, 15, 16, 17, 18] (fun i => [(8, .im none (.sc (.int .i64 i)))]) (fun i => []) (fun i => i ≤ s.2.length ∧ fI p s.2 s.2.length = fI p s.2 (s.2.length - i)) (fun i => s.2.length - i) 0 (Ent.to [] (by simp only [go_sem]; rfl) rfl (by simp) (by rfl) (by simp only [subEnv, go_sem, ↓reduceIte, Nat.reduceEqDiff, keep, memN] <;> simp)) ⟨Nat.zero_le _, rfl⟩ ?_
 rintro i ⟨hi0, hi1⟩
 by_cases hi : i < s.2.length
 ·rw [fI_step hi] at hi1
  have e1 := at_mapD (f := eI) (d := 0) hi
  simp +contextual -implicitDefEqProofs only [hi, e1, eI, Int.toNat_natCast, go_sem, ↓reduceIte, Nat.reduceEqDiff, Nat.reduceLeDiff, Nat.reduceLT, Int.ofNat_lt, List.length_map, Int.natCast_nonneg]
  refine callQ_self (ds := eI (s.2.getD i 0) :: caps) (by simp only [argsOf, AV.arg, argsOf_ims]; rfl) (hf _ (getD_mem hi)) ?_
  cases hp : p (s.2.getD i 0)
  ·rw [if_neg (by rw [hp]; exact Bool.false_ne_true)] at hi1
   simp +contextual -implicitDefEqProofs only [go_sem, eB, ↓reduceIte, Nat.reduceEqDiff]
   rw [wrap_i64 (by omega) (by omega)]
   exact ⟨i + 1, ⟨by omega, hi1⟩, by omega, Ent.to [] (by simp only [go_sem]; rfl) rfl (by simp) (by rfl) (by simp only [subEnv, go_sem, ↓reduceIte, Nat.reduceEqDiff] <;> simp)⟩
  ·rw [if_pos hp] at hi1
   simp +contextual -implicitDefEqProofs only [hi1, go_sem, eB, ↓reduceIte, Nat.reduceEqDiff]
 ·obtain rfl : i = s.2.length := by omega
  rw [fI_nil] at hi1
  simp +contextual -implicitDefEqProofs only [hi, hi1, go_sem, ↓reduceIte, Nat.reduceEqDiff, Int.ofNat_lt]

def k_containsFI (f1 : Nat) : RC := (.seq (.reg false [⟨none, .mv 4 (.c (.sc (.bool false)))⟩]) ((.seq (.reg false [⟨none, .mv 5 (.t 0)⟩, ⟨none, .mv 6 (.t 1)⟩, ⟨none, .call (some 7) f1 [(.t 5), (.t 6)]⟩, ⟨none, .bin 8 .geq (.t 7) (.c (.sc (.int .i64 0)))⟩, ⟨none, .mv 4 (.t 8)⟩]) (.ret))))
def K_containsFI (P : Program) (fno : Nat) : Prop := ∀ (s : SL Int) (f : Nat) (caps : List D) (p : Int → Bool) (hf : ∀ x ∈ s.2, AF P f (eI x :: caps) (.own (eB (p x)))), AF P fno [eS 1 eI s, .fn f caps] (.own (eB (s.2.any p)))
theorem a_containsFI {P : Program} (hm : P.follows .mixedOrders = true) {g f1 : Nat} (hr : resF P g = some (9, k_containsFI f1, [.t 4])) (hc1 : K_indexFI P f1) : K_containsFI P g := by
 intro s f caps p hf
 refine af_of_res hr hm rfl fun hb => ?_
 simp +contextual -implicitDefEqProofs only [k_containsFI, go_sem, eB, ↓reduceIte, Nat.reduceEqDiff, Nat.reduceAdd]
 refine callQ_self (ds := [eS 1 eI s, .fn f caps]) (by rfl) (hc1 s f caps p hf) ?_
 simp +contextual -implicitDefEqProofs only [eI, ← fI_any, go_sem, ↓reduceIte]

def k_indexI : RC := (.seq (.reg false [⟨none, .mv 4 (.c (.sc (.int .i64 0)))⟩]) ((.seq ((.seq (.reg false [⟨none, .mv 6 (.t 0)⟩, ⟨none, .len 7 (.t 6)⟩, ⟨none, .mv 8 (.c (.sc (.int .i64 0)))⟩]) (.blk 0 (.loop ((.seq (.reg false [⟨none, .bin 9 .lss (.t 8) (.t 7)⟩]) ((.seq (.cond (.t 9) (.skip) (.exit 0)) ((.seq (.blk 1 ((.seq (.reg false [⟨none, .mv 10 (.t 8)⟩, ⟨none, .mv 5 (.t 10)⟩]) ((.seq (.reg false [⟨none, .mv 11 (.t 1)⟩, ⟨none, .mv 12 (.t 0)⟩, ⟨none, .mv 13 (.t 5)⟩, ⟨none, .ia 14 1 (.t 12) (.t 13)⟩, ⟨none, .ld 15 false 1 (.t 14)⟩, ⟨none, .bin 16 .eql (.t 11) (.t 15)⟩]) (.cond (.t 16) ((.seq (.reg false [⟨none, .mv 17 (.t 5)⟩, ⟨none, .mv 4 (.t 17)⟩]) (.ret))) (.skip))))))) (.reg false [⟨none, .bin 18 .add (.t 8) (.c (.sc (.int .i64 1)))⟩, ⟨none, .mv 8 (.t 18)⟩]))))))))))) ((.seq (.reg false [⟨none, .mv 4 (.c (.sc (.int .i64 (-1))))⟩]) (.ret))))))
def K_indexI (P : Program) (fno : Nat) : Prop := ∀ (s : SL Int) (v : Int), AF P fno [eS 1 eI s, eI v] (.own (eI (fI (fun x => v == x) s.2 s.2.length)))
theorem a_indexI {P : Program} (hm : P.follows .mixedOrders = true) {g : Nat} (hr : resF P g = some (19, k_indexI, [.t 4])) : K_indexI P g := by
 intro s v
 refine af_of_res hr hm rfl fun hb => ?_
 have hl := bd_ls hb.1
 simp only [List.length_map] at hl
 simp +contextual -implicitDefEqProofs only [k_indexI, eS, go_sem, eI, ↓reduceIte, Nat.reduceEqDiff, Nat.reduceAdd, List.length_map]
 refine vc_onU (α := Nat) [4, 5, 8, 9, 10, 11, 12, 13, 14, 15, 16, 17, 18] (fun i => [(8, .im none (.sc (.int .i64 i)))]) (fun i => []) (fun i => i ≤ s.2.length ∧ fI (fun x => v == x) s.2 s.2.length = fI (fun x => v == x) s.2 (s.2.length - i)) (fun i => s.2.length - i) 0 (Ent.to [] (by simp only [go_sem]; rfl) rfl (by simp) (by rfl) (by simp only [subEnv, go_sem, ↓reduceIte, Nat.reduceEqDiff, keep, memN] <;> simp)) ⟨Nat.zero_le _, rfl⟩ ?_
 rintro i ⟨hi0, hi1⟩
 by_cases hi : i < s.2.length
 ·rw [fI_step hi] at hi1
  have e1 := at_mapD (f := eI) (d := 0) hi
  simp +contextual -implicitDefEqProofs only [hi, e1, eI, Int.toNat_natCast, go_sem, ↓reduceIte, Nat.reduceEqDiff, Nat.reduceLeDiff, Nat.reduceLT, Int.ofNat_lt, List.length_map, Int.natCast_nonneg]
  by_cases hp : v = s.2.getD i 0
  ·rw [if_pos (by simpa using hp)] at hi1
   have hp' : (v == s.2.getD i 0) = true := by simpa using hp
   simp +contextual -implicitDefEqProofs only [hp', hi1, go_sem]
  ·rw [if_neg (by simpa using hp)] at hi1
   have hp' : (v == s.2.getD i 0) = false := by simpa using hp
   simp +contextual -implicitDefEqProofs only [hp', go_sem]
   rw [wrap_i64 (by omega) (by omega)]
   exact ⟨i + 1, ⟨by omega, hi1⟩, by omega, Ent.to [] (by simp only [go_sem]; rfl) rfl (by simp) (by rfl) (by simp only [subEnv, go_sem, ↓reduceIte, Nat.reduceEqDiff] <;> simp)⟩
 ·obtain rfl : i = s.2.length := by omega
  rw [fI_nil] at hi1
  simp +contextual -implicitDefEqProofs only [hi, hi1, go_sem, ↓reduceIte, Nat.reduceEqDiff, Int.ofNat_lt]

def k_containsI (f1 : Nat) : RC := (.seq (.reg false [⟨none, .mv 4 (.c (.sc (.bool false)))⟩]) ((.seq (.reg false [⟨none, .mv 5 (.t 0)⟩, ⟨none, .mv 6 (.t 1)⟩, ⟨none, .call (some 7) f1 [(.t 5), (.t 6)]⟩, ⟨none, .bin 8 .geq (.t 7) (.c (.sc (.int .i64 0)))⟩, ⟨none, .mv 4 (.t 8)⟩]) (.ret))))
def K_containsI (P : Program) (fno : Nat) : Prop := ∀ (s : SL Int) (v : Int), AF P fno [eS 1 eI s, eI v] (.own (eB (hasI s.2 v)))
theorem a_containsI {P : Program} (hm : P.follows .mixedOrders = true) {g f1 : Nat} (hr : resF P g = some (9, k_containsI f1, [.t 4])) (hc1 : K_indexI P f1) : K_containsI P g := by
 intro s v
 refine af_of_res hr hm rfl fun hb => ?_
 simp +contextual -implicitDefEqProofs only [k_containsI, go_sem, eI, eB, ↓reduceIte, Nat.reduceEqDiff, Nat.reduceAdd]
 refine callQ_self (ds := [eS 1 eI s, eI v]) (by rfl) (hc1 s v) ?_
 simp +contextual -implicitDefEqProofs only [eI, hasI, ← fI_any, go_sem, ↓reduceIte]

def k_l05Has : RC := (.seq (.reg false [⟨none, .mv 4 (.c (.sc (.bool false)))⟩]) ((.seq ((.seq (.reg false [⟨none, .mv 5 (.c (.sc (.int .i64 0)))⟩]) (.blk 0 (.loop ((.seq ((.seq (.reg false [⟨none, .mv 6 (.t 5)⟩, ⟨none, .mv 7 (.t 0)⟩, ⟨none, .len 8 (.t 7)⟩, ⟨none, .bin 9 .lss (.t 6) (.t 8)⟩]) (.cond (.t 9) (.skip) (.exit 0)))) ((.seq (.blk 1 ((.seq (.reg false [⟨none, .mv 12 (.t 0)⟩, ⟨none, .mv 13 (.t 5)⟩, ⟨none, .ia 14 1 (.t 12) (.t 13)⟩, ⟨none, .ld 15 false 1 (.t 14)⟩, ⟨none, .mv 16 (.t 1)⟩, ⟨none, .bin 17 .eql (.t 15) (.t 16)⟩]) (.cond (.t 17) ((.seq (.reg false [⟨none, .mv 4 (.c (.sc (.bool true)))⟩]) (.ret))) (.skip))))) (.reg false [⟨none, .mv 10 (.t 5)⟩, ⟨none, .bin 11 .add (.t 10) (.c (.sc (.int .i64 1)))⟩, ⟨none, .mv 5 (.t 11)⟩]))))))))) ((.seq (.reg false [⟨none, .mv 4 (.c (.sc (.bool false)))⟩]) (.ret))))))
def K_l05Has (P : Program) (fno : Nat) : Prop := ∀ (s : SL Int) (v : Int), AF P fno [eS 1 eI s, eI v] (.own (eB (hasI s.2 v)))
theorem a_l05Has {P : Program} (hm : P.follows .mixedOrders = true) {g : Nat} (hr : resF P g = some (18, k_l05Has, [.t 4])) : K_l05Has P g := by
 intro s v
 refine af_of_res hr hm rfl fun hb => ?_
 have hl := bd_ls hb.1
 simp only [List.length_map] at hl
 simp +contextual -implicitDefEqProofs only [k_l05Has, eS, go_sem, eI, eB, ↓reduceIte, Nat.reduceAdd]
 refine vc_onU (α := Nat) [4, 5, 6, 7, 8, 9, 10, 11, 12, 13, 14, 15, 16, 17] (fun i => [(5, .im none (.sc (.int .i64 i)))]) (fun i => []) (fun i => i ≤ s.2.length ∧ (s.2.take i).any (fun x => v == x) = false) (fun i => s.2.length - i) 0 (Ent.to [] (by simp only [go_sem]; rfl) rfl (by simp) (by rfl) (by simp only [subEnv, go_sem, ↓reduceIte, Nat.reduceEqDiff, keep, memN] <;> simp)) ⟨Nat.zero_le _, rfl⟩ ?_
 rintro i ⟨hi0, hi1⟩
 by_cases hi : i < s.2.length
 ·have e1 := at_mapD (f := eI) (d := 0) hi
  have e2 := any_take (p := fun x => v == x) hi
  rw [hi1, Bool.false_or] at e2
  by_cases hp : s.2.getD i 0 = v
  ·have hp' : (s.2.getD i 0 == v) = true := by simpa using hp
   have e3 : hasI s.2 v = true := by
    unfold hasI
    rw [← List.take_append_drop (i + 1) s.2, List.any_append, e2, show (v == s.2.getD i 0) = true by simpa using hp.symm, Bool.true_or]
   rw [e3]
   simp +contextual -implicitDefEqProofs only [hi, e1, eI, Int.toNat_natCast, hp', go_sem, ↓reduceIte, Nat.reduceEqDiff, Nat.reduceLeDiff, Nat.reduceLT, Int.ofNat_lt, List.length_map, Int.natCast_nonneg]
  ·have hp' : (s.2.getD i 0 == v) = false := by simpa using hp
   have e3 : (v == s.2.getD i 0) = false := by simpa using Ne.symm hp
   simp +contextual -implicitDefEqProofs only [hi, e1, eI, Int.toNat_natCast, hp', go_sem, ↓reduceIte, Nat.reduceEqDiff, Nat.reduceLeDiff, Nat.reduceLT, Int.ofNat_lt, List.length_map, Int.natCast_nonneg]
   rw [wrap_i64 (by omega) (by omega)]
   exact ⟨i + 1, ⟨by omega, by rw [e2, e3]⟩, by omega, Ent.to [] (by simp only [go_sem]; rfl) rfl (by simp) (by rfl) (by simp only [subEnv, go_sem, ↓reduceIte, Nat.reduceEqDiff] <;> simp)⟩
 ·obtain rfl : i = s.2.length := by omega
  rw [List.take_length] at hi1
  rw [show hasI s.2 v = false from hi1]
  simp +contextual -implicitDefEqProofs only [hi, go_sem, ↓reduceIte, Nat.reduceEqDiff, Int.ofNat_lt, List.length_map]

def k_l05Asked (f1 f2 f3 : Nat) : RC := (.seq (.reg false [⟨none, .mv 6 (.c (.sc (.int .i64 0)))⟩]) ((.seq ((.seq (.reg false [⟨none, .mv 7 (.t 0)⟩, ⟨none, .call (some 8) f1 [(.t 7)]⟩, ⟨none, .un 9 .not (.t 8)⟩, ⟨none, .mv 10 (.t 9)⟩, ⟨some (10, false), .mv 11 (.t 0)⟩, ⟨some (10, false), .nck 12 (.t 11)⟩, ⟨some (10, false), .fa 13 0 (.t 12)⟩, ⟨some (10, false), .ld 14 true 2 (.t 13)⟩, ⟨some (10, false), .mv 15 (.t 1)⟩, ⟨some (10, false), .call (some 16) f2 [(.t 14), (.t 15)]⟩, ⟨some (10, false), .un 17 .not (.t 16)⟩, ⟨none, .pick 18 (.t 10) (.c (.sc (.bool true))) (.t 17)⟩]) (.cond (.t 18) ((.seq (.reg false [⟨none, .mv 6 (.c (.sc (.int .i64 1)))⟩]) (.ret))) (.skip)))) ((.seq ((.seq (.reg false [⟨none, .mv 19 (.t 0)⟩, ⟨none, .mv 20 (.t 2)⟩, ⟨none, .call (some 21) f3 [(.t 19), (.t 20)]⟩, ⟨none, .un 22 .not (.t 21)⟩]) (.cond (.t 22) ((.seq (.reg false [⟨none, .mv 6 (.c (.sc (.int .i64 2)))⟩]) (.ret))) (.skip)))) ((.seq (.reg false [⟨none, .mv 6 (.c (.sc (.int .i64 0)))⟩]) (.ret))))))))
def K_l05Asked (P : Program) (fno : Nat) : Prop := ∀ (m : Mo) (e : Ex) (s : SL Int), AF P fno [.pt (eM m) 0, .pt (eE e) 0, eS 1 eI s] (.own (eI (askR m e s.2)))
theorem a_l05Asked {P : Program} (hm : P.follows .mixedOrders = true) {g f1 f2 f3 : Nat} (hr : resF P g = some (23, k_l05Asked f1 f2 f3, [.t 6])) (hc1 : K_l05Ok P f1) (hc2 : K_l01Ok P f2) (hc3 : K_l05Set P f3) : K_l05Asked P g := by
 intro m e s
 obtain ⟨gs, p, T, A⟩ := m
 refine af_of_res hr hm rfl fun hb => ?_
 simp +contextual -implicitDefEqProofs only [k_l05Asked, eM, eS, eI, List.map_nil, List.map_cons, go_sem, ↓reduceIte, Nat.reduceEqDiff, Nat.reduceAdd]
 refine callQ_self (ds := [.pt (eM (gs, p, T, A)) 0]) (by rfl) (hc1 (gs, p, T, A)) ?_
 cases ho : okMo (gs, p, T, A)
 ·rw [show askR (gs, p, T, A) e s.2 = 1 by simp [askR, ho]]
  simp +contextual -implicitDefEqProofs only [eB, Bool.not_false, go_sem, ↓reduceIte, Nat.reduceEqDiff]
 obtain ⟨n, hM⟩ := okMo_ok ho
 have hg : okG gs = true := hM.g
 have hp : p = (n : Int) := hM.pts
 have n8 := hM.n8
 simp +contextual -implicitDefEqProofs only [eB, D.size, D.sizeL, D.sub, D.isAg, List.map_nil, List.map_cons, Bool.not_true, go_sem, ↓reduceIte, Nat.reduceEqDiff, Nat.reduceAdd, Nat.reduceLeDiff, Nat.reduceLT]
 refine callQ_self (ds := [eG gs, .pt (eE e) 0]) (by rfl) (hc2 gs e) ?_
 cases hq : okE gs e
 ·rw [show askR (gs, p, T, A) e s.2 = 1 by simp [askR, hq]]
  simp +contextual -implicitDefEqProofs only [eB, Bool.not_false, Bool.and_false, hg, go_sem, ↓reduceIte, Nat.reduceEqDiff]
 simp +contextual -implicitDefEqProofs only [eB, List.map_nil, List.map_cons, Bool.not_true, Bool.and_true, hg, go_sem, ↓reduceIte, Nat.reduceEqDiff]
 refine callQ_self (ds := [.pt (eM (gs, p, T, A)) 0, eS 1 eI s]) (by rfl) (hc3 (gs, p, T, A) s (by simp only; omega)) ?_
 cases hs : isSetB p s.2
 ·rw [show askR (gs, p, T, A) e s.2 = 2 by simp [askR, ho, hq, hs]]
  simp +contextual -implicitDefEqProofs only [eB, Bool.not_false, go_sem, ↓reduceIte]
 rw [show askR (gs, p, T, A) e s.2 = 0 by simp [askR, ho, hq, hs]]
 simp +contextual -implicitDefEqProofs only [eB, Bool.not_true, go_sem, ↓reduceIte]
end Go.Ax
