/- Contracts of functions of the seat, proved over the engine. No condition. -/
import Derived.Test.YtjnghfepojipiaaX105
import Derived.Test.YtjnghfepojipiaaX53
set_option linter.unusedSimpArgs false
set_option linter.unusedVariables false
set_option linter.unnecessarySimpa false
namespace Go.Ax
set_option linter.unusedSimpArgs false
set_option maxRecDepth 20000
set_option maxHeartbeats 4000000

def k_f6big : RC := (.seq (.reg false [⟨none, .mv 2 (.c (.sc (.bool false)))⟩]) ((.seq (.reg false [⟨none, .mv 3 (.t 0)⟩, ⟨none, .len 4 (.t 3)⟩, ⟨none, .bin 5 .gtr (.t 4) (.c (.sc (.int .i64 4096)))⟩, ⟨none, .mv 2 (.t 5)⟩]) (.ret))))
def K_f6big (P : Program) (fno : Nat) : Prop := ∀ (nn : Option Bool) (c : List Int), AF P fno [.ls nn 1 (c.map eU)] (.own (eB (decide ((c.length : Int) > 4096))))
theorem a_f6big {P : Program} (hm : P.follows .mixedOrders = true) {g : Nat} (hr : resF P g = some (6, k_f6big, [.t 2])) : K_f6big P g := by
 intro nn c
 refine af_of_res hr hm rfl fun hb => ?_
 simp +contextual -implicitDefEqProofs only [k_f6big, eB, List.length_map, go_sem, ↓reduceIte, Nat.reduceEqDiff]
theorem imL_cast {f g : Nat → Bool} {n : Nat} (h : ∀ i, i < n → f i = g i) : imL f n = imL g n := by
 unfold imL
 rw [List.filter_congr fun i hi => h i (List.mem_range.1 hi)]
theorem imL_set {f : Nat → Bool} {n : Nat} : isSetB n (imL f n) = true := by
 simp only [isSetB, Bool.and_eq_true]
 refine ⟨imL_asc, ?_⟩
 simp only [allIn, List.all_eq_true]
 intro x hx
 obtain ⟨i, h1, _, rfl⟩ := imL_mem.1 hx
 simp [isIn]; omega

theorem hit_dot {R Q : Rel} {n y : Nat} {s : List Int} : hitF (dotR n R Q) s y = hitF Q (imL (hitF R s) n) y := by
 rw [Bool.eq_iff_iff]
 simp only [hitF, dotR, dotU, List.any_eq_true, Bool.and_eq_true, List.mem_range]
 constructor
 ·rintro ⟨x, hx, k, hk, h1, h2⟩
  exact ⟨(k : Int), imL_mem.2 ⟨k, hk, by simp only [hitF, List.any_eq_true]; exact ⟨x, hx, h1⟩, rfl⟩, by simpa using h2⟩
 ·rintro ⟨v, hv, h2⟩
  obtain ⟨k, hk, h3, rfl⟩ := imL_mem.1 hv
  simp only [hitF, List.any_eq_true] at h3
  obtain ⟨x, hx, h1⟩ := h3
  exact ⟨x, hx, k, hk, h1, by simpa using h2⟩

theorem hit_safe {R : Rel} {n : Nat} {s t : List Int} (hs : ∀ x ∈ s, 0 ≤ x ∧ x.toNat < n) : ((imL (hitF R s) n).all fun y => hasI t y) = (s.all fun x => hasI (imL (fun x => safF R t n x) n) x) := by
 rw [Bool.eq_iff_iff]
 simp only [List.all_eq_true, hasI_iff]
 constructor
 ·intro h x hx
  obtain ⟨h0, h1⟩ := hs x hx
  refine imL_mem.2 ⟨x.toNat, h1, ?_, by omega⟩
  simp only [safF, safU, List.all_eq_true, List.mem_range]
  intro y hy
  cases hR : R x.toNat y
  ·rfl
  ·have := h y (imL_mem.2 ⟨y, hy, by simp only [hitF, List.any_eq_true]; exact ⟨x, hx, hR⟩, rfl⟩)
   simp [hasI_iff.2 this]
 ·intro h v hv
  obtain ⟨y, hy, h1, rfl⟩ := imL_mem.1 hv
  simp only [hitF, List.any_eq_true] at h1
  obtain ⟨x, hx, hR⟩ := h1
  obtain ⟨i, hi, h2, h3⟩ := imL_mem.1 (h x hx)
  subst h3
  simp only [safF, safU, List.all_eq_true, List.mem_range] at h2
  have := h2 y hy
  simp only [Int.toNat_natCast] at hR
  rw [hR] at this
  simpa [hasI_iff] using this
theorem okE_drn {g : Int × Int} {e : Ex} {s : Int} (h : Drn g false s 7 e) (hs : s ≤ 200) : okE g e = true := by
 obtain ⟨h1, _, _, _, h5, h6⟩ := h
 simp only [okE, Bool.and_eq_true, decide_eq_true_eq]
 exact ⟨by omega, by omega, h1⟩
theorem okE_dot {g : Int × Int} {e f : Ex} {s : Int} (h : Drn g false s 7 e) (h' : Drn g false s 7 f) (hs : s ≤ 99) : okE g (.mk 7 0 (some false) [e, f]) = true := by
 obtain ⟨h1, _, _, _, h5, h6⟩ := h
 obtain ⟨h1', _, _, _, h5', h6'⟩ := h'
 simp only [okE, Bool.and_eq_true, decide_eq_true_eq]
 rw [sizeE_mk, depthE_mk, treeE_mk]
 simp only [sizeEs, depthEs, List.all_cons, List.all_nil, h1, h1', formOk, Bool.and_true]
 refine ⟨by omega, by omega, by simp [kidsN]⟩

theorem images_all {m : Mo} {n : Nat} {e f : Ex} {s t : List Int} (hmo : okMo m = true) (hn : m.2.1 = n) (he : Drn m.1 false 11 7 e) (hf : Drn m.1 false 11 7 f) (hs : isSetB n s = true) (ht : isSetB n t = true) :
  ∃ due both safe, (∀ z, imgS z m e s = ((some false, due), 0)) ∧ (∀ z, imgS z m f due = ((some false, both), 0)) ∧ (∀ z, imgS z m (.mk 7 0 (some false) [e, f]) s = ((some false, both), 0)) ∧ (∀ z, safS z m e t = ((some false, safe), 0)) ∧
   (due.all fun x => hasI t x) = (s.all fun x => hasI safe x) := by
 obtain ⟨n', hM⟩ := okMo_ok hmo
 obtain rfl : n = n' := by have := hM.pts; omega
 have hq : ∀ e s, okE m.1 e = true → isSetB n s = true → askR m e s = 0 := fun e s h1 h2 => by simp [askR, hmo, h1, hn, h2]
 have oe := okE_drn he (by omega)
 have of := okE_drn hf (by omega)
 have od := okE_dot he hf (by omega)
 refine ⟨_, _, _, fun z => setS_ok hM (hq e s oe hs), fun z => setS_ok hM (hq f _ of imL_set), fun z => ?_, fun z => setS_ok hM (hq e t oe ht), ?_⟩
 ·rw [imgS, setS_ok hM (hq _ s od hs)]
  have hr : relE m (.mk 7 0 (some false) [e, f]) = dotR n (relE m e) (relE m f) := by
   rw [relE_mk]
   simp only [relOp, List.map_cons, List.map_nil, hn, Int.toNat_natCast]
   rfl
  rw [hr, imL_cast fun i _ => hit_dot]
 ·exact hit_safe fun x hx => by have := set_mem hM (by rw [hn]; exact hs) hx; omega
end Go.Ax
