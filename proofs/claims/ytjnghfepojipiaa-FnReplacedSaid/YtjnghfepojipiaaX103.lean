/- Contracts of functions of the seat, proved over the engine. No condition. -/
import Derived.Test.YtjnghfepojipiaaX102
import Derived.Test.YtjnghfepojipiaaX97
import Derived.Test.YtjnghfepojipiaaX23
set_option linter.unusedSimpArgs false
set_option linter.unusedVariables false
set_option linter.unnecessarySimpa false
namespace Go.Ax
set_option linter.unusedSimpArgs false
set_option maxRecDepth 20000
set_option maxHeartbeats 4000000

def k_p6Same (f1 : Nat) : RC := (.seq (.reg false [⟨none, .box 2 3 (.t 0)⟩, ⟨none, .box 3 3 (.t 1)⟩, ⟨none, .mv 4 (.c (.sc (.bool false)))⟩]) ((.seq (.reg false [⟨none, .call (some 5) f1 [(.t 2), (.t 3)]⟩, ⟨none, .mv 4 (.t 5)⟩]) (.ret))))
def K_p6Same (P : Program) (fno : Nat) : Prop := ∀ (a b : Ex), AF P fno [eE a, eE b] (.own (eB (qE a b)))
theorem a_p6Same {P : Program} (hm : P.follows .mixedOrders = true) {g f1 : Nat} (hr : resF P g = some (6, k_p6Same f1, [.t 4])) (hc1 : K_l01Same P f1) : K_p6Same P g := by
 intro a b
 refine af_of_res hr hm rfl fun hb => ?_
 simp +contextual -implicitDefEqProofs only [k_p6Same, eB, eE_size, go_sem, eI, ↓reduceIte, Nat.reduceEqDiff, Nat.reduceAdd, Nat.reduceLeDiff, Nat.reduceMul, Nat.reduceBEq, Nat.reduceBneDiff, Nat.reduceLT, Nat.reduceSub, Int.ofNat_lt, List.length_map, Int.natCast_nonneg]
 refine callQ_self (ds := [.pt (eE a) 0, .pt (eE b) 0]) (by rfl) (hc1 a b) ?_
 simp +contextual -implicitDefEqProofs only [eB, go_sem, eI, ↓reduceIte, Nat.reduceEqDiff, Nat.reduceAdd, Nat.reduceLeDiff, Nat.reduceMul, Nat.reduceBEq, Nat.reduceBneDiff, Nat.reduceLT, Nat.reduceSub, Int.ofNat_lt, List.length_map, Int.natCast_nonneg]

def k_p6Cond (f1 : Nat) : RC := (.seq (.reg false [⟨none, .box 1 3 (.t 0)⟩, ⟨none, .mv 2 (.c (.sc (.bool false)))⟩]) ((.seq (.reg false [⟨none, .call (some 3) f1 [(.t 1)]⟩, ⟨none, .mv 2 (.t 3)⟩]) (.ret))))
def K_p6Cond (P : Program) (fno : Nat) : Prop := ∀ (a : Ex), AF P fno [eE a] (.own (eB (condE a)))
theorem a_p6Cond {P : Program} (hm : P.follows .mixedOrders = true) {g f1 : Nat} (hr : resF P g = some (4, k_p6Cond f1, [.t 2])) (hc1 : K_l01Condition P f1) : K_p6Cond P g := by
 intro a
 refine af_of_res hr hm rfl fun hb => ?_
 simp +contextual -implicitDefEqProofs only [k_p6Cond, eB, eE_size, go_sem, eI, ↓reduceIte, Nat.reduceEqDiff, Nat.reduceAdd, Nat.reduceLeDiff, Nat.reduceMul, Nat.reduceBEq, Nat.reduceBneDiff, Nat.reduceLT, Nat.reduceSub, Int.ofNat_lt, List.length_map, Int.natCast_nonneg]
 refine callQ_self (ds := [.pt (eE a) 0]) (by rfl) (hc1 a) ?_
 simp +contextual -implicitDefEqProofs only [eB, go_sem, eI, ↓reduceIte, Nat.reduceEqDiff, Nat.reduceAdd, Nat.reduceLeDiff, Nat.reduceMul, Nat.reduceBEq, Nat.reduceBneDiff, Nat.reduceLT, Nat.reduceSub, Int.ofNat_lt, List.length_map, Int.natCast_nonneg]

def k_f6big : RC := (.seq (.reg false [⟨none, .mv 2 (.c (.sc (.bool false)))⟩]) ((.seq (.reg false [⟨none, .mv 3 (.t 0)⟩, ⟨none, .len 4 (.t 3)⟩, ⟨none, .bin 5 .gtr (.t 4) (.c (.sc (.int .i64 4096)))⟩, ⟨none, .mv 2 (.t 5)⟩]) (.ret))))
def K_f6big (P : Program) (fno : Nat) : Prop := ∀ (nn : Option Bool) (c : List Int), AF P fno [.ls nn 1 (c.map eU)] (.own (eB (decide ((c.length : Int) > 4096))))
theorem a_f6big {P : Program} (hm : P.follows .mixedOrders = true) {g : Nat} (hr : resF P g = some (6, k_f6big, [.t 2])) : K_f6big P g := by
 intro nn c
 refine af_of_res hr hm rfl fun hb => ?_
 simp +contextual -implicitDefEqProofs only [k_f6big, eB, List.length_map, go_sem, eI, ↓reduceIte, Nat.reduceEqDiff, Nat.reduceAdd, Nat.reduceLeDiff, Nat.reduceMul, Nat.reduceBEq, Nat.reduceBneDiff, Nat.reduceLT, Nat.reduceSub, Int.ofNat_lt, Int.natCast_nonneg]

theorem sizeEs_set : ∀ (ks : List Ex) (i : Nat) (S : Ex), i < ks.length → sizeEs (ks.set i S) + sizeE (ks.getD i default) = sizeEs ks + sizeE S
 | [], i, S, h => by simp at h
 | x :: ks, 0, S, h => by simp only [List.set_cons_zero, List.getD_cons_zero, sizeEs]; omega
 | x :: ks, i + 1, S, h => by
  have := sizeEs_set ks i S (by simpa using h)
  simp only [List.set_cons_succ, List.getD_cons_succ, sizeEs]; omega
theorem sizeEs_get : ∀ (ks : List Ex) (i : Nat), i < ks.length → sizeE (ks.getD i default) ≤ sizeEs ks
 | [], i, h => by simp at h
 | x :: ks, 0, h => by simp only [List.getD_cons_zero, sizeEs]; omega
 | x :: ks, i + 1, h => by
  have := sizeEs_get ks i (by simpa using h)
  simp only [List.getD_cons_succ, sizeEs]; omega
theorem depthEs_set : ∀ (ks : List Ex) (i : Nat) (S : Ex), depthEs (ks.set i S) ≤ max (depthEs ks) (depthE S)
 | [], i, S => by simp [depthEs]
 | x :: ks, 0, S => by simp only [List.set_cons_zero, depthEs]; omega
 | x :: ks, i + 1, S => by
  have := depthEs_set ks i S
  simp only [List.set_cons_succ, depthEs]; omega
theorem getD_mem {ks : List Ex} {i : Nat} (h : i < ks.length) : ks.getD i default ∈ ks := by
 rw [List.getD_eq_getElem?_getD, List.getElem?_eq_getElem h]
 exact List.getElem_mem h
theorem getD_set {ks : List Ex} {i : Nat} {S : Ex} (h : i < ks.length) : (ks.set i S).getD i default = S := by simp [h]
theorem set_getD {ks : List Ex} {i : Nat} (h : i < ks.length) : ks.set i (ks.getD i default) = ks := by
 apply List.ext_getElem?
 intro j
 rw [List.getElem?_set]
 split
 ·next e => subst e; simp [h]
 ·rfl

theorem at_open {x : Int} {xs : List Int} {k n : Int} {nn : Option Bool} {ks : List Ex} {b : Bool} (h : (atE (.mk k n nn ks) (x :: xs) b).2.2 = true) :
  isIn x 0 ((ks.length : Int) - 1) = true ∧ x.toNat < ks.length ∧ (atE (ks.getD x.toNat default) xs (b || k == 5)).2.2 = true ∧ atE (.mk k n nn ks) (x :: xs) b = atE (ks.getD x.toNat default) xs (b || k == 5) := by
 have e : atE (.mk k n nn ks) (x :: xs) b = if isIn x 0 ((ks.length : Int) - 1) = true then atE (ks.getD x.toNat default) xs (b || k == 5) else (.mk k n nn ks, b, false) := by rw [atE, Ex.ks_mk, Ex.k_mk]
 rw [e] at h ⊢
 split at h
 ·next hi => rw [if_pos hi]; exact ⟨hi, (isIn_lt hi).2.2, h, rfl⟩
 ·cases h
theorem atE_set : ∀ (q : List Int) (e v : Ex) (b : Bool), (atE e q b).2.2 = true → atE (setE q e v) q b = (v, (atE e q b).2)
 | [], e, v, b, h => by rw [setE_nil, atE, atE]
 | x :: xs, e, v, b, h => by
  obtain ⟨k, n, nn, ks, rfl⟩ := Ex.ex e
  obtain ⟨h1, h2, h3, h4⟩ := at_open h
  rw [h4, setE_cons, atE, Ex.ks_mk, Ex.k_mk, List.length_set, if_pos h1, getD_set h2]
  exact atE_set xs _ v _ h3
theorem size_set : ∀ (q : List Int) (e v : Ex) (b : Bool), (atE e q b).2.2 = true → sizeE (setE q e v) + sizeE (atE e q b).1 = sizeE e + sizeE v
 | [], e, v, b, h => by rw [setE_nil, atE]; simp only; omega
 | x :: xs, e, v, b, h => by
  obtain ⟨k, n, nn, ks, rfl⟩ := Ex.ex e
  obtain ⟨h1, h2, h3, h4⟩ := at_open h
  have ih := size_set xs (ks.getD x.toNat default) v (b || k == 5) h3
  have hs := sizeEs_set ks x.toNat (setE xs (ks.getD x.toNat default) v) h2
  rw [h4, setE_cons, sizeE_mk, sizeE_mk]
  omega
theorem depth_set : ∀ (q : List Int) (e v : Ex), depthE (setE q e v) ≤ max (depthE e) (q.length + depthE v)
 | [], e, v => by rw [setE_nil]; simp; omega
 | x :: xs, e, v => by
  obtain ⟨k, n, nn, ks, rfl⟩ := Ex.ex e
  have ih := depth_set xs (ks.getD x.toNat default) v
  have hs := depthEs_set ks x.toNat (setE xs (ks.getD x.toNat default) v)
  rw [setE_cons, depthE_mk, depthE_mk]
  by_cases h2 : x.toNat < ks.length
  ·have hg := depthEs_get ks x.toNat h2
   simp only [List.length_cons]
   omega
  ·have : ks.set x.toNat (setE xs (ks.getD x.toNat default) v) = ks := List.set_eq_of_length_le (by omega)
   rw [this]; omega
theorem all_set {p : Ex → Bool} {ks : List Ex} {i : Nat} {S : Ex} (h : ks.all p = true) (hS : p S = true) : (ks.set i S).all p = true := by
 rw [List.all_eq_true] at h ⊢
 intro y hy
 rcases List.mem_or_eq_of_mem_set hy with hy | rfl
 ·exact h y hy
 ·exact hS
theorem cond_set : ∀ (q : List Int) (e v : Ex) (b : Bool), (atE e q b).2.2 = true → condE e = true → condE v = true → condE (setE q e v) = true
 | [], e, v, b, h, _, hv => by rw [setE_nil]; exact hv
 | x :: xs, e, v, b, h, hc, hv => by
  obtain ⟨k, n, nn, ks, rfl⟩ := Ex.ex e
  obtain ⟨h1, h2, h3, h4⟩ := at_open h
  rw [condE_mk, Bool.and_eq_true] at hc
  rw [setE_cons, condE_mk, hc.1, Bool.true_and]
  exact all_set hc.2 (cond_set xs _ v _ h3 (List.all_eq_true.1 hc.2 _ (getD_mem h2)) hv)
theorem at_mono : ∀ (q : List Int) (e : Ex), (atE e q true).2.1 = true
 | [], e => by rw [atE]
 | x :: xs, e => by
  rw [atE]
  split
  ·rw [Bool.true_or]; exact at_mono xs _
  ·rfl
theorem headC_one {ks : List Ex} (h : ks.length = 1) : headC ks = ks.all condE := by
 match ks, h with
 | [x], _ => simp [headC]
theorem form_set {g : Int × Int} {k n : Int} {ks : List Ex} {i : Nat} {S : Ex} (h : formOk g k n ks = true) (hS : k = 5 → condE S = true) : formOk g k n (ks.set i S) = true := by
 unfold formOk at h ⊢
 rw [List.length_set]
 rw [Bool.and_eq_true] at h ⊢
 refine ⟨h.1, ?_⟩
 have h2 := h.2
 split
 ·next e => rw [if_pos e] at h2; exact h2
 ·next e =>
  rw [if_neg e] at h2
  split
  ·next e2 => rw [if_pos e2] at h2; exact h2
  ·next e2 =>
   rw [if_neg e2] at h2
   split
   ·next e3 =>
    rw [if_pos e3] at h2
    have hl : ks.length = 1 := by have := h.1; rw [e3] at this; simp [kidsN] at this; omega
    rw [headC_one hl, Bool.and_eq_true] at h2
    rw [headC_one (by simpa using hl), Bool.and_eq_true]
    exact ⟨h2.1, all_set h2.2 (hS e3)⟩
   ·next e3 => rw [if_neg e3] at h2; exact h2
theorem head_cond {g : Int × Int} {n : Int} {ks : List Ex} (h : formOk g 5 n ks = true) : ks.all condE = true := by
 unfold formOk at h
 rw [Bool.and_eq_true] at h
 have hl : ks.length = 1 := by have := h.1; simp [kidsN] at this; omega
 have h2 := h.2
 rw [if_neg (by decide), if_neg (by decide), if_pos rfl, Bool.and_eq_true, headC_one hl] at h2
 exact h2.2
theorem tree_set {g : Int × Int} : ∀ (q : List Int) (e v : Ex) (b : Bool), (atE e q b).2.2 = true → treeE g e = true → treeE g v = true → ((atE e q b).2.1 = true → condE v = true) → treeE g (setE q e v) = true
 | [], e, v, b, h, _, hv, _ => by rw [setE_nil]; exact hv
 | x :: xs, e, v, b, h, ht, hv, hb => by
  obtain ⟨k, n, nn, ks, rfl⟩ := Ex.ex e
  obtain ⟨h1, h2, h3, h4⟩ := at_open h
  rw [h4] at hb
  rw [treeE_mk, Bool.and_eq_true] at ht
  rw [setE_cons, treeE_mk, Bool.and_eq_true]
  refine ⟨form_set ht.1 fun e5 => ?_, all_set ht.2 (tree_set xs _ v _ h3 (List.all_eq_true.1 ht.2 _ (getD_mem h2)) hv hb)⟩
  subst e5
  have hc := head_cond ht.1
  refine cond_set xs _ v _ h3 (List.all_eq_true.1 hc _ (getD_mem h2)) (hb ?_)
  simpa using at_mono xs _
theorem tree_at {g : Int × Int} : ∀ (q : List Int) (e : Ex) (b : Bool), (atE e q b).2.2 = true → treeE g e = true → treeE g (atE e q b).1 = true
 | [], e, b, h, ht => by rw [atE]; exact ht
 | x :: xs, e, b, h, ht => by
  obtain ⟨k, n, nn, ks, rfl⟩ := Ex.ex e
  obtain ⟨h1, h2, h3, h4⟩ := at_open h
  rw [treeE_mk, Bool.and_eq_true] at ht
  rw [h4]
  exact tree_at xs _ _ h3 (List.all_eq_true.1 ht.2 _ (getD_mem h2))
theorem cond_at {g : Int × Int} : ∀ (q : List Int) (e : Ex) (b : Bool), (atE e q b).2.2 = true → treeE g e = true → (b = true → condE e = true) → (atE e q b).2.1 = true → condE (atE e q b).1 = true
 | [], e, b, h, _, hb, hf => by rw [atE] at hf ⊢; exact hb hf
 | x :: xs, e, b, h, ht, hb, hf => by
  obtain ⟨k, n, nn, ks, rfl⟩ := Ex.ex e
  obtain ⟨h1, h2, h3, h4⟩ := at_open h
  rw [treeE_mk, Bool.and_eq_true] at ht
  rw [h4] at hf ⊢
  refine cond_at xs _ _ h3 (List.all_eq_true.1 ht.2 _ (getD_mem h2)) (fun hb' => ?_) hf
  rw [Bool.or_eq_true] at hb'
  rcases hb' with hb' | hb'
  ·have := hb hb'
   rw [condE_mk, Bool.and_eq_true] at this
   exact List.all_eq_true.1 this.2 _ (getD_mem h2)
  ·have : k = 5 := by simpa using hb'
   subst this
   exact List.all_eq_true.1 (head_cond ht.1) _ (getD_mem h2)
theorem fitE_default : fitE (default : Ex) := by
 show fitE (.mk default default default default)
 rw [fitE_mk]
 exact ⟨by show 0 ≤ _; omega, fun _ h => by cases h⟩
theorem fit_set : ∀ (q : List Int) (e v : Ex), fitE e → fitE v → fitE (setE q e v)
 | [], e, v, _, hv => by rw [setE_nil]; exact hv
 | x :: xs, e, v, he, hv => by
  obtain ⟨k, n, nn, ks, rfl⟩ := Ex.ex e
  rw [fitE_mk] at he
  rw [setE_cons, fitE_mk]
  refine ⟨by simpa using he.1, fun y hy => ?_⟩
  rcases List.mem_or_eq_of_mem_set hy with hy | rfl
  ·exact he.2 y hy
  ·refine fit_set xs _ v ?_ hv
   by_cases h2 : x.toNat < ks.length
   ·exact he.2 _ (getD_mem h2)
   ·rw [List.getD_eq_getElem?_getD, List.getElem?_eq_none (by omega)]
    show fitE default
    exact fitE_default

theorem all_ext {p q : Ex → Bool} : ∀ ks : List Ex, (∀ x ∈ ks, p x = q x) → ks.all p = ks.all q
 | [], _ => rfl
 | x :: ks, h => by simp only [List.all_cons, h x (by simp), all_ext ks fun y hy => h y (by simp [hy])]
theorem cond_cp : ∀ e : Ex, condE (cpE e) = condE e :=
 Ex.ind fun k n nn ks ih => by
  rw [cpE_mk, condE_mk, condE_mk]
  congr 1
  rw [List.all_map]
  exact all_ext ks fun x hx => ih x hx
theorem sizeEs_map : ∀ ks : List Ex, (∀ x ∈ ks, sizeE (cpE x) = sizeE x) → sizeEs (ks.map cpE) = sizeEs ks
 | [], _ => rfl
 | x :: ks, h => by simp only [List.map_cons, sizeEs, h x (by simp), sizeEs_map ks fun y hy => h y (by simp [hy])]
theorem size_cp : ∀ e : Ex, sizeE (cpE e) = sizeE e :=
 Ex.ind fun k n nn ks ih => by rw [cpE_mk, sizeE_mk, sizeE_mk, sizeEs_map ks ih]
theorem depthEs_map : ∀ ks : List Ex, (∀ x ∈ ks, depthE (cpE x) = depthE x) → depthEs (ks.map cpE) = depthEs ks
 | [], _ => rfl
 | x :: ks, h => by simp only [List.map_cons, depthEs, h x (by simp), depthEs_map ks fun y hy => h y (by simp [hy])]
theorem depth_cp : ∀ e : Ex, depthE (cpE e) = depthE e :=
 Ex.ind fun k n nn ks ih => by rw [cpE_mk, depthE_mk, depthE_mk, depthEs_map ks ih]
theorem headC_map (ks : List Ex) : headC (ks.map cpE) = headC ks := by
 cases ks with
 | nil => rfl
 | cons x ks => exact cond_cp x
theorem tree_cp {g : Int × Int} : ∀ e : Ex, treeE g (cpE e) = treeE g e :=
 Ex.ind fun k n nn ks ih => by
  rw [cpE_mk, treeE_mk, treeE_mk]
  congr 1
  ·simp only [formOk, List.length_map, headC_map]
  ·rw [List.all_map]
   exact all_ext ks fun x hx => ih x hx
mutual
def er : Ex → Ex
 | .mk k n _ ks => .mk k n none (ers ks)
def ers : List Ex → List Ex
 | [] => []
 | x :: ks => er x :: ers ks
end
theorem ers_eq : ∀ ks : List Ex, ers ks = ks.map er
 | [] => rfl
 | x :: ks => by simp only [ers, List.map_cons, ers_eq ks]
theorem er_mk {k n : Int} {nn : Option Bool} {ks : List Ex} : er (.mk k n nn ks) = .mk k n none (ks.map er) := by rw [er, ers_eq]
theorem er_cp : ∀ e : Ex, er (cpE e) = er e :=
 Ex.ind fun k n nn ks ih => by
  rw [cpE_mk, er_mk, er_mk, List.map_map]
  congr 1
  exact List.map_congr_left fun x hx => ih x hx
theorem eqL_er : ∀ (a b : List Ex), (∀ x ∈ a, ∀ y, er x = er y → qE x y = true) → a.map er = b.map er → eqL qE a b = true
 | [], [], _, _ => rfl
 | [], _ :: _, _, h => by simp at h
 | _ :: _, [], _, h => by simp at h
 | x :: a, y :: b, h, e => by
  simp only [List.map_cons, List.cons.injEq] at e
  simp only [eqL, h x (by simp) y e.1, Bool.true_and]
  exact eqL_er a b (fun z hz => h z (by simp [hz])) e.2
theorem er_q : ∀ (a b : Ex), er a = er b → qE a b = true := by
 refine Ex.ind (p := fun a => ∀ b, er a = er b → qE a b = true) fun k n nn ks ih b h => ?_
 obtain ⟨k', n', nn', ks', rfl⟩ := Ex.ex b
 rw [er_mk, er_mk] at h
 injection h with h1 h2 h3 h4
 rw [qE_mk, h1, h2, eqL_er ks ks' ih h4]
 simp
theorem er_getD {ks : List Ex} {i : Nat} (h : i < ks.length) : (ks.map er).getD i default = er (ks.getD i default) := by simp [h]
theorem er_set : ∀ (q : List Int) (e v : Ex) (b : Bool), (atE e q b).2.2 = true → er (setE q e v) = setE q (er e) (er v)
 | [], e, v, b, h => by rw [setE_nil, setE_nil]
 | x :: xs, e, v, b, h => by
  obtain ⟨k, n, nn, ks, rfl⟩ := Ex.ex e
  obtain ⟨h1, h2, h3, h4⟩ := at_open h
  rw [setE_cons, er_mk, er_mk, setE_cons, List.map_set, er_set xs _ v _ h3, er_getD h2]
theorem set_set' : ∀ (q : List Int) (e v w : Ex) (b : Bool), (atE e q b).2.2 = true → setE q (setE q e v) w = setE q e w
 | [], e, v, w, b, h => by rw [setE_nil, setE_nil]
 | x :: xs, e, v, w, b, h => by
  obtain ⟨k, n, nn, ks, rfl⟩ := Ex.ex e
  obtain ⟨h1, h2, h3, h4⟩ := at_open h
  rw [setE_cons, setE_cons, setE_cons, List.set_set, getD_set h2, set_set' xs _ v w _ h3]
theorem set_at : ∀ (q : List Int) (e : Ex) (b : Bool), (atE e q b).2.2 = true → setE q e (atE e q b).1 = e
 | [], e, b, h => by rw [setE_nil, atE]
 | x :: xs, e, b, h => by
  obtain ⟨k, n, nn, ks, rfl⟩ := Ex.ex e
  obtain ⟨h1, h2, h3, h4⟩ := at_open h
  rw [h4, setE_cons, set_at xs _ _ h3, set_getD h2]
theorem node_size : ∀ (q : List Int) (e : Ex) (b : Bool), (atE e q b).2.2 = true → sizeE (atE e q b).1 ≤ sizeE e
 | [], e, b, h => by rw [atE]; exact Nat.le_refl _
 | x :: xs, e, b, h => by
  obtain ⟨k, n, nn, ks, rfl⟩ := Ex.ex e
  obtain ⟨h1, h2, h3, h4⟩ := at_open h
  have := node_size xs _ _ h3
  have h5 := sizeEs_set ks x.toNat (.mk 0 0 none []) h2
  have h6 : sizeE (.mk 0 0 none []) = 1 := by rw [sizeE_mk]; simp [sizeEs]
  have h7 : sizeE (ks.getD x.toNat default) ≤ sizeEs ks := sizeEs_get ks x.toNat h2
  rw [h4, sizeE_mk]
  omega
theorem node_depth : ∀ (q : List Int) (e : Ex) (b : Bool), (atE e q b).2.2 = true → depthE (atE e q b).1 ≤ depthE e
 | [], e, b, h => by rw [atE]; exact Nat.le_refl _
 | x :: xs, e, b, h => by
  obtain ⟨k, n, nn, ks, rfl⟩ := Ex.ex e
  obtain ⟨h1, h2, h3, h4⟩ := at_open h
  have := node_depth xs _ _ h3
  have h7 := depthEs_get ks x.toNat h2
  rw [h4, depthE_mk]
  omega
theorem er_set2 : ∀ (q : List Int) (e : Ex) (b : Bool), (atE e q b).2.2 = true → setE q (er e) (er (atE e q b).1) = er e := by
 intro q e b h
 rw [← er_set q e _ b h, set_at q e b h]

theorem replaced_all {g : Int × Int} {e r : Ex} {q : List Int} (hg : okG g = true) (he : Drn g false 23 7 e) (hr : Drn g false 7 7 r) (hq : (atE e q false).2.2 = true) (hl : q.length ≤ 7) (hc : (atE e q false).2.1 = true → condE r = true) :
  replT g e q r = (setE q (cpE e) (cpE r), 0) ∧ subAt g (setE q (cpE e) (cpE r)) q = (cpE (cpE r), 0) ∧
  (∃ bk, replT g (setE q (cpE e) (cpE r)) q (cpE (atE e q false).1) = (bk, 0) ∧ qE bk e = true) ∧ qE (cpE (cpE r)) r = true ∧
  sizeE (setE q (cpE e) (cpE r)) + sizeE (cpE (atE e q false).1) = sizeE e + sizeE r ∧ fitE (setE q (cpE e) (cpE r)) ∧ fitE (cpE (atE e q false).1) := by
 obtain ⟨e1, e2, _, e4, e5, e6⟩ := he
 obtain ⟨r1, r2, _, r4, r5, r6⟩ := hr
 have hac := atE_cpE q e false
 have hqc : (atE (cpE e) q false).2.2 = true := by rw [hac]; exact hq
 have hpm : putAt q e r = setE q (cpE e) (cpE r) := (setE_put q e false r hq).symm
 generalize hm : setE q (cpE e) (cpE r) = m at hpm ⊢
 have hsz := size_set q (cpE e) (cpE r) false hqc
 rw [hm, hac, size_cp, size_cp] at hsz
 simp only [size_cp] at hsz
 have hdp := depth_set q (cpE e) (cpE r)
 rw [hm, depth_cp, depth_cp] at hdp
 have hm1 : treeE g m = true := by
  rw [← hm]
  refine tree_set q _ _ false hqc (by rw [tree_cp]; exact e1) (by rw [tree_cp]; exact r1) fun h => ?_
  rw [hac] at h
  rw [cond_cp]
  exact hc h
 have hfm : fitE m := by rw [← hm]; exact fit_set q _ _ (fitE_cpE e e2) (fitE_cpE r r2)
 have hatm : atE m q false = (cpE r, (atE e q false).2) := by rw [← hm, atE_set q _ _ false hqc, hac]
 have hnode := tree_at q e false hq e1
 have hfn := fitE_atE q e false e2
 have okm : okE g m = true := by
  simp only [okE, Bool.and_eq_true, decide_eq_true_eq]
  exact ⟨by omega, by omega, hm1⟩
 have oke : okE g e = true := by
  simp only [okE, Bool.and_eq_true, decide_eq_true_eq]
  exact ⟨by omega, by omega, e1⟩
 have okr : okE g r = true := by
  simp only [okE, Bool.and_eq_true, decide_eq_true_eq]
  exact ⟨by omega, by omega, r1⟩
 have hqm : (atE m q false).2.2 = true := by rw [hatm]; exact hq
 refine ⟨?_, ?_, ?_, er_q _ _ (by rw [er_cp, er_cp]), by rw [size_cp]; exact hsz, hfm, fitE_cpE _ hfn⟩
 ·have h4 : ((atE e q false).2.1 && !condE r) = false := by
   cases h : (atE e q false).2.1
   ·rfl
   ·rw [hc h]; rfl
  simp only [replT, replM, hg, oke, okr, Bool.and_self, if_true, hq, h4, Bool.false_eq_true, if_false, hpm, okm]
 ·unfold subAt
  rw [hg, okm]
  simp only [Bool.and_self, if_true]
  rw [if_pos hqm, hatm]
 ·
  have hcn : (atE e q false).2.1 = true → condE (atE e q false).1 = true := cond_at q e false hq e1 (fun h => by cases h)
  have hdn : depthE (atE e q false).1 ≤ 7 ∧ (sizeE (atE e q false).1 : Int) ≤ 23 := by
   have h1 : sizeE (atE e q false).1 ≤ sizeE e := by
    have := size_set q e (atE e q false).1 false hq
    rw [set_at q e false hq] at this
    exact node_size q e false hq
   exact ⟨Nat.le_trans (node_depth q e false hq) e6, by omega⟩
  generalize hnd : (atE e q false).1 = node at *
  have hac2 := atE_cpE q m false
  have hqc2 : (atE (cpE m) q false).2.2 = true := by rw [hac2]; exact hqm
  have hpm2 : putAt q m (cpE node) = setE q (cpE m) (cpE (cpE node)) := (setE_put q m false (cpE node) hqm).symm
  have hsz2 := size_set q (cpE m) (cpE (cpE node)) false hqc2
  have hdp2 := depth_set q (cpE m) (cpE (cpE node))
  generalize hbk : setE q (cpE m) (cpE (cpE node)) = bk at hpm2 hsz2 hdp2
  rw [size_cp, size_cp, size_cp] at hsz2
  rw [depth_cp, depth_cp, depth_cp] at hdp2
  have hb1 : treeE g bk = true := by
   rw [← hbk]
   refine tree_set q _ _ false hqc2 (by rw [tree_cp]; exact hm1) (by rw [tree_cp, tree_cp]; exact hnode) fun h => ?_
   rw [hac2, hatm] at h
   rw [cond_cp, cond_cp]
   exact hcn h
  have okb : okE g bk = true := by
   simp only [okE, Bool.and_eq_true, decide_eq_true_eq]
   exact ⟨by omega, by omega, hb1⟩
  have okn : okE g (cpE node) = true := by
   simp only [okE, Bool.and_eq_true, decide_eq_true_eq]
   rw [size_cp, depth_cp, tree_cp]
   exact ⟨by omega, by omega, hnode⟩
  have h4 : ((atE m q false).2.1 && !condE (cpE node)) = false := by
   rw [hatm, cond_cp]
   cases h : (atE e q false).2.1
   ·rfl
   ·rw [hcn h]; rfl
  refine ⟨bk, by simp only [replT, replM, hg, okm, okn, Bool.and_self, if_true, hqm, h4, Bool.false_eq_true, if_false, hpm2, okb], er_q _ _ ?_⟩
  rw [← hbk, er_set q _ _ false hqc2, er_cp, er_cp, er_cp, ← hm, er_set q _ _ false hqc, er_cp, er_cp, ← hnd]
  rw [← er_set q e r false hq, ← er_set q _ _ false (by rw [atE_set q e r false hq]; exact hq), set_set' q e r _ false hq, er_set q e _ false hq, er_set2 q e false hq]
theorem sizeEs_append : ∀ {a b : List Ex}, sizeEs (a ++ b) = sizeEs a + sizeEs b
 | [], b => by simp [sizeEs]
 | x :: a, b => by simp only [List.cons_append, sizeEs, sizeEs_append (a := a)]; omega
theorem sizeEs_succ {l : List Ex} {i : Nat} (h : i < l.length) : sizeEs (l.take (i + 1)) = sizeEs (l.take i) + sizeE l[i] := by
 rw [List.take_succ_eq_append_getElem h, sizeEs_append]; simp [sizeEs]
theorem sizeEs_take {l : List Ex} {i : Nat} : sizeEs (l.take i) ≤ sizeEs l := by
 conv => rhs; rw [← List.take_append_drop i l, sizeEs_append]
 omega

def k_l01SizeX (g : Nat) : RC := (.seq (.reg false [⟨none, .mv 2 (.c (.sc (.int .i64 0)))⟩]) ((.seq (.reg false [⟨none, .mv 3 (.c (.sc (.int .i64 1)))⟩]) ((.seq ((.seq (.reg false [⟨none, .mv 4 (.c (.sc (.int .i64 0)))⟩]) (.blk 0 (.loop ((.seq ((.seq (.reg false [⟨none, .mv 5 (.t 4)⟩, ⟨none, .mv 6 (.t 0)⟩, ⟨none, .nck 7 (.t 6)⟩, ⟨none, .fa 8 2 (.t 7)⟩, ⟨none, .ld 9 false 1 (.t 8)⟩, ⟨none, .len 10 (.t 9)⟩, ⟨none, .bin 11 .lss (.t 5) (.t 10)⟩]) (.cond (.t 11) (.skip) (.exit 0)))) ((.seq (.blk 1 (.reg false [⟨none, .mv 14 (.t 3)⟩, ⟨none, .mv 15 (.t 0)⟩, ⟨none, .nck 16 (.t 15)⟩, ⟨none, .fa 17 2 (.t 16)⟩, ⟨none, .ld 18 false 1 (.t 17)⟩, ⟨none, .mv 19 (.t 4)⟩, ⟨none, .ia 20 3 (.t 18) (.t 19)⟩, ⟨none, .call (some 21) g [(.t 20)]⟩, ⟨none, .bin 22 .add (.t 14) (.t 21)⟩, ⟨none, .mv 3 (.t 22)⟩])) (.reg false [⟨none, .mv 12 (.t 4)⟩, ⟨none, .bin 13 .add (.t 12) (.c (.sc (.int .i64 1)))⟩, ⟨none, .mv 4 (.t 13)⟩]))))))))) ((.seq (.reg false [⟨none, .mv 23 (.t 3)⟩, ⟨none, .mv 2 (.t 23)⟩]) (.ret))))))))
def K_l01SizeX (P : Program) (fno : Nat) : Prop := ∀ (e : Ex) (hz : sizeE e ≤ 1000000000), AF P fno [.pt (eE e) 0] (.own (eI (sizeE e)))
theorem a_l01SizeX {P : Program} (hm : P.follows .mixedOrders = true) {g : Nat} (hr : resF P g = some (24, k_l01SizeX g, [.t 2])) : K_l01SizeX P g := by
 intro e hz
 refine Ex.ind (p := fun e => sizeE e ≤ 1000000000 → AF P g [.pt (eE e) 0] (.own (eI (sizeE e)))) (fun k n nn ks ih hz => ?_) e hz
 rw [sizeE_mk] at hz
 rw [eE_mk, sizeE_mk]
 refine af_of_res hr hm rfl fun hb => ?_
 have hl : ks.length ≤ 9223372036854775807 := by
  have := hb.1
  simp only [D.bd, D.bdL, List.length_map, maxEl] at this
  exact this.2.2.1.1
 simp +contextual -implicitDefEqProofs only [k_l01SizeX, List.length_map, bne, Bool.not_true, Bool.not_false, Bool.true_and, Bool.false_and, Bool.and_true, Bool.and_false, Bool.true_or, Bool.false_or, Bool.or_true, Bool.or_false, go_sem, eI, eB, ↓reduceIte, Nat.reduceEqDiff, Nat.reduceAdd, Nat.reduceLeDiff, Nat.reduceMul, Nat.reduceBEq, Nat.reduceBneDiff, Nat.reduceLT, Nat.reduceSub]
 refine vc_on (α := Nat) [3, 4, 5, 6, 7, 8, 9, 10, 11, 12, 13, 14, 15, 16, 17, 18, 19, 20, 21, 22] (fun i => [(4, .im none (.sc (.int .i64 i))), (3, .im none (.sc (.int .i64 (1 + (sizeEs (ks.take i) : Int)))))]) (fun i => i ≤ ks.length) (fun i => ks.length - i) 0 (by simp only [subEnv, go_sem, ↓reduceIte, Nat.reduceEqDiff, List.length_map, List.take_zero, sizeEs]; simp) (Nat.zero_le _) ?_
 intro i j1
 by_cases hi : i < ks.length
 ·have e1 := at_map (f := eE) hi
  have hm1 := sizeE_mem (List.getElem_mem hi)
  have hs := sizeEs_succ hi
  have ht := sizeEs_take (l := ks) (i := i + 1)
  simp +contextual -implicitDefEqProofs only [e1, hi, eE_size, Int.ofNat_lt, List.length_map, Int.natCast_nonneg, Nat.zero_lt_one, bne, Bool.not_true, Bool.not_false, Bool.true_and, Bool.false_and, Bool.and_true, Bool.and_false, Bool.true_or, Bool.false_or, Bool.or_true, Bool.or_false, go_sem, eI, eB, ↓reduceIte, Nat.reduceEqDiff, Nat.reduceAdd, Nat.reduceLeDiff, Nat.reduceMul, Nat.reduceBEq, Nat.reduceBneDiff, Nat.reduceLT, Nat.reduceSub]
  refine callQ_self ?_ (ih ks[i] (List.getElem_mem _) (by omega)) ?_
  ·exact rfl
  simp +contextual -implicitDefEqProofs only [bne, Bool.not_true, Bool.not_false, Bool.true_and, Bool.false_and, Bool.and_true, Bool.and_false, Bool.true_or, Bool.false_or, Bool.or_true, Bool.or_false, go_sem, eI, eB, ↓reduceIte, Nat.reduceEqDiff, Nat.reduceAdd, Nat.reduceLeDiff, Nat.reduceMul, Nat.reduceBEq, Nat.reduceBneDiff, Nat.reduceLT, Nat.reduceSub]
  rw [wrap_i64 (by omega) (by omega), wrap_i64 (by omega) (by omega)]
  have hk : (1 + (sizeEs (ks.take i) : Int) + sizeE ks[i]) = 1 + sizeEs (ks.take (i + 1)) := by rw [hs]; push_cast; omega
  rw [hk]
  exact ⟨i + 1, by omega, by omega, Ent.env (by simp only [subEnv, go_sem, ↓reduceIte, Nat.reduceEqDiff, List.length_map]; simp)⟩
 ·simp +contextual -implicitDefEqProofs only [hi, Int.ofNat_lt, List.length_map, Int.natCast_nonneg, bne, Bool.not_true, Bool.not_false, Bool.true_and, Bool.false_and, Bool.and_true, Bool.and_false, Bool.true_or, Bool.false_or, Bool.or_true, Bool.or_false, go_sem, eI, eB, ↓reduceIte, Nat.reduceEqDiff, Nat.reduceAdd, Nat.reduceLeDiff, Nat.reduceMul, Nat.reduceBEq, Nat.reduceBneDiff, Nat.reduceLT, Nat.reduceSub]
  rw [List.take_of_length_le (by omega)]
  exact D.Le.sc_eq (by push_cast; rfl)

def k_p6Size (f1 : Nat) : RC := (.seq (.reg false [⟨none, .box 1 3 (.t 0)⟩, ⟨none, .mv 2 (.c (.sc (.int .i64 0)))⟩]) ((.seq (.reg false [⟨none, .call (some 3) f1 [(.t 1)]⟩, ⟨none, .mv 2 (.t 3)⟩]) (.ret))))
def K_p6Size (P : Program) (fno : Nat) : Prop := ∀ (a : Ex) (hz : sizeE a ≤ 1000000000), AF P fno [eE a] (.own (eI (sizeE a)))
theorem a_p6Size {P : Program} (hm : P.follows .mixedOrders = true) {g f1 : Nat} (hr : resF P g = some (4, k_p6Size f1, [.t 2])) (hc1 : K_l01SizeX P f1) : K_p6Size P g := by
 intro a hz
 refine af_of_res hr hm rfl fun hb => ?_
 simp +contextual -implicitDefEqProofs only [k_p6Size, eI, eE_size, go_sem, eB, ↓reduceIte, Nat.reduceEqDiff, Nat.reduceAdd, Nat.reduceLeDiff, Nat.reduceMul, Nat.reduceBEq, Nat.reduceBneDiff, Nat.reduceLT, Nat.reduceSub, Int.ofNat_lt, List.length_map, Int.natCast_nonneg]
 refine callQ_self (ds := [.pt (eE a) 0]) (by rfl) (hc1 a hz) ?_
 simp +contextual -implicitDefEqProofs only [eI, go_sem, eB, ↓reduceIte, Nat.reduceEqDiff, Nat.reduceAdd, Nat.reduceLeDiff, Nat.reduceMul, Nat.reduceBEq, Nat.reduceBneDiff, Nat.reduceLT, Nat.reduceSub, Int.ofNat_lt, List.length_map, Int.natCast_nonneg]
end Go.Ax
