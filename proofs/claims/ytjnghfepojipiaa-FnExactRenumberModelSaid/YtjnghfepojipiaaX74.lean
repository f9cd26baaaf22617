/- Contracts of functions of the seat, proved over the engine. No condition. -/
import Derived.Test.YtjnghfepojipiaaX31
import Derived.Test.YtjnghfepojipiaaX50
set_option linter.unusedSimpArgs false
set_option linter.unusedVariables false
set_option linter.unnecessarySimpa false
namespace Go.Ax
set_option linter.unusedSimpArgs false
theorem sub_perm : ∀ {a b : List Int}, a.Nodup → (∀ x ∈ a, x ∈ b) → a.length = b.length → a.Perm b
 | [], b, _, _, h => by
  have : b = [] := List.eq_nil_of_length_eq_zero (by simpa using h.symm)
  rw [this]
 | x :: a, b, hn, hs, h => by
  have hx := hs x (by simp)
  rw [List.nodup_cons] at hn
  have hp := List.perm_cons_erase hx
  have hl := List.length_erase_of_mem hx
  have hb := List.length_pos_of_mem hx
  have h2 : a.Perm (b.erase x) := sub_perm hn.2 (fun y hy => by
   have hne : y ≠ x := fun e => hn.1 (e ▸ hy)
   exact (List.mem_erase_of_ne hne).2 (hs y (by simp [hy]))) (by simp only [List.length_cons] at h; omega)
  exact (h2.cons x).trans hp.symm
def ints (p : Nat) : List Int := (List.range p).map fun (i : Nat) => (i : Int)
theorem ints_nodup (p : Nat) : (ints p).Nodup := by
 unfold ints List.Nodup
 rw [List.pairwise_map]
 exact List.nodup_range.imp fun h e => h (by omega)
theorem asc_get {l : List Int} (h : asc l = true) {i : Nat} (hi : i + 1 < l.length) : l.getD i 0 < l.getD (i + 1) 0 := by
 simp only [asc, ascI, List.all_eq_true, List.mem_range, decide_eq_true_eq] at h
 exact h i (by omega)
theorem asc_of {l : List Int} (h : l.Pairwise (· < ·)) : asc l = true := by
 simp only [asc, ascI, List.all_eq_true, List.mem_range, decide_eq_true_eq]
 intro i hi
 have h1 : i < l.length := by omega
 have h2 : i + 1 < l.length := by omega
 rw [List.getD_eq_getElem?_getD, List.getD_eq_getElem?_getD, List.getElem?_eq_getElem h1, List.getElem?_eq_getElem h2]
 exact List.pairwise_iff_getElem.1 h i (i + 1) h1 h2 (by omega)
theorem set_range {p : Nat} {l : List Int} (hl : l.length = p) (h : isSetB p l = true) : ∀ i, i < p → l.getD i 0 = i := by
 rw [isSetB, Bool.and_eq_true] at h
 obtain ⟨ha, hb⟩ := h
 simp only [allIn, isIn, List.all_eq_true, Bool.and_eq_true, decide_eq_true_eq] at hb
 have hm : ∀ i, i < p → l.getD i 0 ∈ l := fun i hi => by
  rw [List.getD_eq_getElem?_getD, List.getElem?_eq_getElem (by omega)]
  exact List.getElem_mem (by omega)
 have lo : ∀ i, i < p → (i : Int) ≤ l.getD i 0 := by
  intro i
  induction i with
  | zero => intro hi; exact (hb _ (hm 0 hi)).1
  | succ i ih =>
   intro hi
   have := ih (by omega)
   have := asc_get ha (i := i) (by omega)
   omega
 have up : ∀ k i, i + k + 1 = p → l.getD i 0 ≤ i := by
  intro k
  induction k with
  | zero => intro i hi; have := (hb _ (hm i (by omega))).2; omega
  | succ k ih =>
   intro i hi
   have := ih (i + 1) (by omega)
   have := asc_get ha (i := i) (by omega)
   omega
 intro i hi
 have := lo i hi
 have := up (p - 1 - i) i (by omega)
 omega
theorem renum_law (p : Nat) (l : List Int) (hl : l.length = p) : isSetB p (l.mergeSort fun x y => decide (x ≤ y)) = (List.range p).all fun (x : Nat) => decide ((x : Int) ∈ l) := by
 have hp := List.mergeSort_perm l fun x y => decide (x ≤ y)
 have hs : (l.mergeSort fun x y => decide (x ≤ y)).Pairwise fun x y => decide (x ≤ y) = true := List.pairwise_mergeSort (fun a b c h1 h2 => by simp only [decide_eq_true_eq] at *; omega) (fun a b => by simp only [Bool.or_eq_true, decide_eq_true_eq]; omega) l
 generalize (l.mergeSort fun x y => decide (x ≤ y)) = s at hp hs
 have hsl : s.length = p := by rw [hp.length_eq, hl]
 rw [Bool.eq_iff_iff, List.all_eq_true]
 simp only [List.mem_range, decide_eq_true_eq]
 constructor
 ·intro h x hx
  have := set_range hsl h x hx
  rw [← hp.mem_iff, ← this, List.getD_eq_getElem?_getD, List.getElem?_eq_getElem (by omega)]
  exact List.getElem_mem (by omega)
 ·intro h
  have hpr : (ints p).Perm l := sub_perm (ints_nodup p) (fun x hx => by
   obtain ⟨i, hi, rfl⟩ := List.mem_map.1 hx
   exact h i (List.mem_range.1 hi)) (by simp [ints, hl])
  have hps : (ints p).Perm s := hpr.trans hp.symm
  have hn : s.Nodup := hps.nodup_iff.1 (ints_nodup p)
  have hlt : s.Pairwise (· < ·) := by
   have := hs.and hn
   exact this.imp fun {a b} h => by
    have h1 : a ≤ b := by simpa using h.1
    have h2 : a ≠ b := h.2
    omega
  rw [isSetB, Bool.and_eq_true]
  refine ⟨asc_of hlt, ?_⟩
  simp only [allIn, isIn, List.all_eq_true, Bool.and_eq_true, decide_eq_true_eq]
  intro x hx
  obtain ⟨i, hi, rfl⟩ := List.mem_map.1 (hps.mem_iff.2 hx)
  have := List.mem_range.1 hi
  constructor <;> omega
theorem hasI_mem {l : List Int} {x : Int} : hasI l x = decide (x ∈ l) := by
 rw [Bool.eq_iff_iff]
 simp only [hasI, List.any_eq_true, decide_eq_true_eq, beq_iff_eq]
 exact ⟨fun ⟨y, h1, h2⟩ => h2 ▸ h1, fun h => ⟨x, h, rfl⟩⟩
theorem renum_has (p : Nat) (l : List Int) (hl : l.length = p) : isSetB p (l.mergeSort fun x y => decide (x ≤ y)) = (List.range p).all fun (x : Nat) => hasI l x := by
 rw [renum_law p l hl]
 simp only [hasI_mem]
end Go.Ax
