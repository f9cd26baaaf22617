/- Contracts of functions of the seat, proved over the engine. No condition. -/
import Derived.Test.YtjnghfepojipiaaXxD
set_option linter.unusedSimpArgs false
set_option linter.unusedVariables false
set_option linter.unnecessarySimpa false
set_option linter.unusedSectionVars false
namespace Go.Ax
set_option maxRecDepth 20000
set_option maxHeartbeats 4000000
mutual

def dotT : Ex → Ex → Ex
 | .mk k n nn ks, b => if k = 1 ∨ b.k = 1 then .mk 1 0 (some true) [] else if k = 2 then cpE b else if b.k = 2 then cpE (.mk k n nn ks) else if k = 7 then dotTs ks b else .mk 7 0 (some false) [cpE (.mk k n nn ks), cpE b]
def dotTs : List Ex → Ex → Ex
 | [], b => b
 | x :: xs, b => dotT x (dotTs xs b)
end
def starT (a : Ex) : Ex := if condE a = true then .mk 2 0 (some true) [] else if a.k = 8 then cpE a else .mk 8 0 (some false) [cpE a]
mutual
def tidyE : Ex → Ex
 | .mk k n nn ks => if k = 6 then sumT ((tidyEs ks).getD 0 default) ((tidyEs ks).getD 1 default) else if k = 7 then dotT ((tidyEs ks).getD 0 default) ((tidyEs ks).getD 1 default) else if k = 8 then starT ((tidyEs ks).getD 0 default) else cpE (.mk k n nn ks)
def tidyEs : List Ex → List Ex
 | [] => []
 | e :: es => tidyE e :: tidyEs es
end
theorem all_ext {α : Type} {f g : α → Bool} : ∀ {l : List α}, (∀ x ∈ l, f x = g x) → l.all f = l.all g
 | [], _ => rfl
 | x :: l, h => by rw [List.all_cons, List.all_cons, h x (by simp), all_ext fun y hy => h y (by simp [hy])]
theorem cpE_size (e : Ex) : sizeE (cpE e) = sizeE e := by
 refine Ex.ind (p := fun e => sizeE (cpE e) = sizeE e) (fun k n nn ks ih => ?_) e
 rw [cpE_mk, sizeE_mk, sizeE_mk]
 have : ∀ l : List Ex, (∀ x ∈ l, sizeE (cpE x) = sizeE x) → sizeEs (l.map cpE) = sizeEs l := by
  intro l
  induction l with
  | nil => intro _; rfl
  | cons x l ih => intro h; simp only [lC, sizeEs, h x (by simp), ih fun y hy => h y (by simp [hy])]
 rw [this ks ih]
theorem cpE_cond (e : Ex) : condE (cpE e) = condE e := by
 refine Ex.ind (p := fun e => condE (cpE e) = condE e) (fun k n nn ks ih => ?_) e
 rw [cpE_mk, condE_mk, condE_mk]
 congr 1
 rw [List.all_map]
 exact all_ext fun x hx => ih x hx
theorem cpE_tree {g : Int × Int} (e : Ex) : treeE g (cpE e) = treeE g e := by
 refine Ex.ind (p := fun e => treeE g (cpE e) = treeE g e) (fun k n nn ks ih => ?_) e
 rw [cpE_mk, treeE_mk, treeE_mk]
 have h1 : formOk g k n (ks.map cpE) = formOk g k n ks := by
  unfold formOk
  rw [lM]
  cases ks with
  | nil => rfl
  | cons x xs => simp only [lC, headC, cpE_cond]
 rw [h1]
 congr 1
 rw [List.all_map]
 exact all_ext fun x hx => ih x hx
theorem tree_two {g : Int × Int} {k : Int} {a b : Ex} (hk : k = 6 ∨ k = 7) {nn : Option Bool} : treeE g (.mk k 0 nn [a, b]) = (treeE g a && treeE g b) := by
 rw [treeE_mk]
 rcases hk with rfl | rfl <;> simp [formOk, kidsN]
theorem tree_one {g : Int × Int} {a : Ex} {nn : Option Bool} : treeE g (.mk 8 0 nn [a]) = treeE g a := by
 rw [treeE_mk]
 simp [formOk, kidsN]
theorem tree_leaf {g : Int × Int} {k : Int} (hk : k = 1 ∨ k = 2) {nn : Option Bool} : treeE g (.mk k 0 nn []) = true := by
 rw [treeE_mk]
 rcases hk with rfl | rfl <;> simp [formOk, kidsN]
mutual
theorem dotT_ok {g : Int × Int} : ∀ (a b : Ex), treeE g a = true → treeE g b = true → treeE g (dotT a b) = true ∧ sizeE (dotT a b) ≤ sizeE a + sizeE b + 1
 | .mk k n nn ks, b, ha, hb => by
  have hp := sizeE_pos b
  rw [dotT]
  split
  ·refine ⟨tree_leaf (.inl rfl), by rw [sizeE_mk]; simp only [sizeEs]; omega⟩
  ·split
   ·rw [cpE_tree, cpE_size]; exact ⟨hb, by omega⟩
   ·split
    ·rw [cpE_tree, cpE_size]; exact ⟨ha, by omega⟩
    ·split
     ·have h1 := dotTs_ok ks b (tree_kids ha) hb
      have h2 : sizeEs ks + sizeE b + ks.length ≤ sizeE (.mk k n nn ks) + sizeE b + 1 := by
       rename_i h7
       obtain ⟨x, y, rfl, _, _⟩ := two_kids (.inr h7) ha
       rw [sizeE_mk]; simp only [sizeEs, lK, lZ]; omega
      exact ⟨h1.1, by omega⟩
     ·refine ⟨by rw [tree_two (.inr rfl), cpE_tree, cpE_tree, ha, hb]; rfl, ?_⟩
      rw [sizeE_mk (k := 7)]
      simp only [sizeEs, cpE_size]
      omega
theorem dotTs_ok {g : Int × Int} : ∀ (xs : List Ex) (b : Ex), (∀ x ∈ xs, treeE g x = true) → treeE g b = true → treeE g (dotTs xs b) = true ∧ sizeE (dotTs xs b) ≤ sizeEs xs + sizeE b + xs.length
 | [], b, _, hb => by simp only [dotTs, sizeEs, lZ]; exact ⟨hb, by omega⟩
 | x :: xs, b, hx, hb => by
  have h1 := dotTs_ok xs b (fun y hy => hx y (by simp [hy])) hb
  have h2 := dotT_ok x (dotTs xs b) (hx x (by simp)) h1.1
  simp only [dotTs, sizeEs, lK]
  exact ⟨h2.1, by omega⟩
end
theorem starT_ok {g : Int × Int} {a : Ex} (ha : treeE g a = true) : treeE g (starT a) = true ∧ sizeE (starT a) ≤ sizeE a + 1 := by
 unfold starT
 split
 ·exact ⟨tree_leaf (.inr rfl), by rw [sizeE_mk]; simp only [sizeEs]; omega⟩
 ·split
  ·rw [cpE_tree, cpE_size]; exact ⟨ha, by omega⟩
  ·rw [tree_one, cpE_tree]
   refine ⟨ha, ?_⟩
   rw [sizeE_mk]; simp only [sizeEs, cpE_size]; omega

def wL : List Ex → Nat
 | [] => 0
 | x :: xs => sizeE x + 1 + wL xs
theorem wL_app : ∀ {a b : List Ex}, wL (a ++ b) = wL a + wL b
 | [], b => by simp [wL]
 | x :: a, b => by simp only [List.cons_append, wL, wL_app (a := a)]; omega
theorem wL_ins {x : Ex} : ∀ {l : List Ex}, wL (insE x l) = wL l + sizeE x + 1
 | [] => by simp [insE, wL]
 | y :: ys => by
  rw [insE]
  split
  ·simp only [wL, wL_ins (l := ys)]; omega
  ·simp only [wL]; omega
theorem wL_sort {l : List Ex} : wL (sortE l) = wL l := by
 have : ∀ (l acc : List Ex), wL (l.foldl (fun acc x => insE x acc) acc) = wL acc + wL l := by
  intro l
  induction l with
  | nil => intro acc; simp [wL]
  | cons x l ih => intro acc; rw [List.foldl_cons, ih, wL_ins]; simp only [wL]; omega
 rw [sortE, this]; simp [wL]
mutual
theorem wL_sums {g : Int × Int} : ∀ (e : Ex) (acc : List Ex), treeE g e = true → wL (sumsE e acc) ≤ wL acc + sizeE e + 1
 | .mk k n nn ks, acc, h => by
  rw [sumsE]
  split
  ·omega
  ·split
   ·rename_i h6
    have h1 := wL_sumss ks acc (tree_kids h)
    obtain ⟨x, y, rfl, _, _⟩ := two_kids (.inl h6) h
    rw [sizeE_mk]
    simp only [lK, lZ] at h1
    omega
   ·split
    ·omega
    ·rw [wL_app]; simp only [wL]; omega
theorem wL_sumss {g : Int × Int} : ∀ (es : List Ex) (acc : List Ex), (∀ e ∈ es, treeE g e = true) → wL (sumsEs es acc) ≤ wL acc + sizeEs es + es.length
 | [], acc, _ => by simp [sumsEs]
 | e :: es, acc, h => by
  have h1 := wL_sums e acc (h e (by simp))
  have h2 := wL_sumss es (sumsE e acc) (fun y hy => h y (by simp [hy]))
  simp only [sumsEs, sizeEs, lK]
  omega
end
theorem sumTs_ok {g : Int × Int} {l : List Ex} (h : ∀ x ∈ l, treeE g x = true) : treeE g (sumTs l) = true ∧ sizeE (sumTs l) ≤ wL l + 1 ∧ (l ≠ [] → sizeE (sumTs l) + 1 ≤ wL l) := by
 cases l with
 | nil => exact ⟨tree_leaf (.inl rfl), by simp [sumTs, sizeE_mk, sizeEs], by simp⟩
 | cons x xs =>
  have : ∀ (xs : List Ex) (acc : Ex), (∀ y ∈ xs, treeE g y = true) → treeE g acc = true → treeE g (xs.foldl (fun acc y => .mk 6 0 (some false) [acc, cpE y]) acc) = true ∧ sizeE (xs.foldl (fun acc y => .mk 6 0 (some false) [acc, cpE y]) acc) ≤ sizeE acc + wL xs := by
   intro xs
   induction xs with
   | nil => intro acc _ ha; exact ⟨ha, by simp [wL]⟩
   | cons y ys ih =>
    intro acc hy ha
    have := ih (.mk 6 0 (some false) [acc, cpE y]) (fun z hz => hy z (by simp [hz])) (by rw [tree_two (.inl rfl), cpE_tree, ha, hy y (by simp)]; rfl)
    rw [List.foldl_cons]
    refine ⟨this.1, ?_⟩
    have h2 := this.2
    rw [sizeE_mk (k := 6)] at h2
    simp only [sizeEs, cpE_size, wL] at h2 ⊢
    omega
  have h1 := this xs (cpE x) (fun y hy => h y (by simp [hy])) (by rw [cpE_tree]; exact h x (by simp))
  rw [cpE_size] at h1
  simp only [sumTs, wL]
  exact ⟨h1.1, by omega, fun _ => by omega⟩
theorem sumT_ok {g : Int × Int} {a b : Ex} (ha : treeE g a = true) (hb : treeE g b = true) : treeE g (sumT a b) = true ∧ sizeE (sumT a b) ≤ sizeE a + sizeE b + 1 := by
 have hm : ∀ x ∈ sortE (sumsE b (sumsE a [])), treeE g x = true := by
  intro x hx
  rcases mem_sumsE b _ hb x (mem_sortE.1 hx) with h | h
  ·rcases mem_sumsE a _ ha x h with h | h
   ·cases h
   ·exact h.1
  ·exact h.1
 have h1 := wL_sums a [] ha
 have h2 := wL_sums b (sumsE a []) hb
 have h3 := sumTs_ok hm
 have hp := sizeE_pos a
 rw [wL_sort] at h3
 simp only [wL] at h1
 unfold sumT
 refine ⟨h3.1, ?_⟩
 by_cases he : sortE (sumsE b (sumsE a [])) = []
 ·rw [he]; simp [sumTs, sizeE_mk, sizeEs]
 ·have := h3.2.2 he; omega
mutual
theorem tidyE_ok {g : Int × Int} : ∀ e : Ex, treeE g e = true → treeE g (tidyE e) = true ∧ sizeE (tidyE e) ≤ sizeE e
 | .mk k n nn ks, h => by
  have hk := tidyEs_ok ks (tree_kids h)
  rw [tidyE]
  split
  ·rename_i h6
   obtain ⟨x, y, rfl, hx, hy⟩ := two_kids (.inl h6) h
   simp only [tidyEs, List.mem_cons, List.not_mem_nil, or_false] at hk ⊢
   have h1 := hk.1 (tidyE x) (.inl rfl)
   have h2 := hk.1 (tidyE y) (.inr rfl)
   have h3 := sumT_ok h1 h2
   have h4 := hk.2
   simp only [sizeEs] at h4
   rw [sizeE_mk]
   simp only [sizeEs, List.getD_cons_zero, List.getD_cons_succ]
   exact ⟨h3.1, by omega⟩
  ·split
   ·rename_i h7
    obtain ⟨x, y, rfl, hx, hy⟩ := two_kids (.inr h7) h
    simp only [tidyEs, List.mem_cons, List.not_mem_nil, or_false] at hk ⊢
    have h1 := hk.1 (tidyE x) (.inl rfl)
    have h2 := hk.1 (tidyE y) (.inr rfl)
    have h3 := dotT_ok _ _ h1 h2
    have h4 := hk.2
    simp only [sizeEs] at h4
    rw [sizeE_mk]
    simp only [sizeEs, List.getD_cons_zero, List.getD_cons_succ]
    exact ⟨h3.1, by omega⟩
   ·split
    ·rename_i h8
     have hf := tree_form h
     subst h8
     match ks, hf with
     | [x], _ =>
      simp only [tidyEs, List.mem_cons, List.not_mem_nil, or_false] at hk ⊢
      have h1 := hk.1 (tidyE x) rfl
      have h3 := starT_ok h1
      have h4 := hk.2
      simp only [sizeEs] at h4
      rw [sizeE_mk]
      simp only [sizeEs, List.getD_cons_zero]
      exact ⟨h3.1, by omega⟩
     | [], hf => simp [formOk, kidsN] at hf
     | _ :: _ :: _, hf => simp [formOk, kidsN] at hf; omega
    ·rw [cpE_tree, cpE_size]; exact ⟨h, Nat.le_refl _⟩
theorem tidyEs_ok {g : Int × Int} : ∀ es : List Ex, (∀ e ∈ es, treeE g e = true) → (∀ x ∈ tidyEs es, treeE g x = true) ∧ sizeEs (tidyEs es) ≤ sizeEs es
 | [], _ => by simp [tidyEs, sizeEs]
 | e :: es, h => by
  have h1 := tidyE_ok e (h e (by simp))
  have h2 := tidyEs_ok es (fun y hy => h y (by simp [hy]))
  simp only [tidyEs, sizeEs]
  refine ⟨fun x hx => ?_, by omega⟩
  rcases List.mem_cons.1 hx with rfl | hx
  ·exact h1.1
  ·exact h2.1 x hx
end

def k_l02Dot (g f1 f2 f3 : Nat) : RC := (.seq (.r [.o (.zer 4 3 .ze)]) (.seq (.blk 0 (.seq (.r [.m 7 0, .n 8 7, .f 9 0 8, .l 10 1 9, .q 11 10 1, .m 12 11, .u 12 (.mv 13 (.t 1)), .u 12 (.nck 14 (.t 13)), .u 12 (.fa 15 0 (.t 14)), .u 12 (.ld 16 false 1 (.t 15)), .u 12 (.bin 17 .eql (.t 16) (.ci 1)), .o (.pick 18 (.t 12) .ct (.t 17)), .m 6 18]) (.cond (.t 6) (.seq (.r [.c 19 f1 [], .s 3 4 19]) .ret) (.seq (.r [.m 21 0, .n 22 21, .f 23 0 22, .l 24 1 23, .q 25 24 2, .m 20 25]) (.cond (.t 20) (.seq (.r [.m 26 1, .c 27 f2 [.t 26], .s 3 4 27]) .ret) (.seq (.r [.m 29 1, .n 30 29, .f 31 0 30, .l 32 1 31, .q 33 32 2, .m 28 33]) (.cond (.t 28) (.seq (.r [.m 34 0, .c 35 f2 [.t 34], .s 3 4 35]) .ret) (.seq (.r [.m 37 0, .n 38 37, .f 39 0 38, .l 40 1 39, .q 41 40 7, .m 36 41]) (.cond (.t 36) (.seq (.r [.m 42 0, .n 43 42, .f 44 2 43, .l 45 1 44, .i 46 3 45 1, .m 47 1, .c 48 g [.t 46, .t 47], .o (.zer 5 3 .ze), .s 3 5 48]) (.seq (.r [.m 49 0, .n 50 49, .f 51 2 50, .l 52 1 51, .i 53 3 52 0, .c 54 g [.t 53, .t 5], .s 3 4 54]) .ret)) .skip))))))))) (.seq (.r [.m 55 0, .c 56 f2 [.t 55], .m 57 1, .c 58 f2 [.t 57], .c 59 f3 [.ci 7, .t 56, .t 58], .s 3 4 59]) .ret)))
def K_l02Dot (P : Program) (fno : Nat) : Prop := ∀ (g0 : Int × Int) (_ : okG g0 = true) (a : Ex), treeE g0 a = true → ∀ b : Ex, treeE g0 b = true → AF P fno [.pt (eE a) 0, .pt (eE b) 0] (.own (eE (dotT a b)))
theorem a_l02Dot {P : Program} (hm : P.follows .mixedOrders = true) {g f1 f2 f3 : Nat} (hr : resF P g = some (60, k_l02Dot g f1 f2 f3, [.c 4 3 true])) (hc1 : K_l02Zero P f1) (hc2 : K_l01Own P f2) (hc3 : K_l02PairX P f3) : K_l02Dot P g := by
 intro g0 hg a
 have key : ∀ N : Nat, ∀ a : Ex, sizeE a ≤ N → treeE g0 a = true → ∀ b : Ex, treeE g0 b = true → AF P g [.pt (eE a) 0, .pt (eE b) 0] (.own (eE (dotT a b))) := by
  intro N
  induction N with
  | zero => intro e hz; have := sizeE_pos e; omega
  | succ N ih =>
   intro a hz hTa b hTb
   have hfa := fit_tree hg a hTa
   have hfb := fit_tree hg b hTb
   obtain ⟨k, n, nn, ks, rfl⟩ := Ex.ex a
   obtain ⟨k', n', nn', ks', rfl⟩ := Ex.ex b
   rw [dotT]
   generalize ha : Ex.mk k n nn ks = a at *
   generalize hb' : Ex.mk k' n' nn' ks' = b at *
   have hA : eE a = .ag [eI k, eI n, .ls nn 3 (ks.map eE)] := by rw [← ha, eE_mk]; rfl
   have hB : eE b = .ag [eI k', eI n', .ls nn' 3 (ks'.map eE)] := by rw [← hb', eE_mk]; rfl
   have hbk : b.k = k' := by rw [← hb']; rfl
   rw [hbk]
   refine af_of_res hr hm rfl fun _ => ?_
   simp only [st0_eq, argEnv_cons, argEnv_nil, hA, hB]
   by_cases c1 : k = 1
   ·have d1 : (k == 1) = true := by simp [c1]
    rw [if_pos (.inl c1)]
    simp +contextual -implicitDefEqProofs only [k_l02Dot, d1, eI, Nat.zero_add, Nat.add_zero, List.append_nil, D.size, D.sizeL, sub_agf, isAg_ag, List.getD_cons_zero, go_sem]
    refine callQ_self (ds := []) (by rfl) (hc1 ()) ?_
    simp +contextual -implicitDefEqProofs only [D.put, encE.sub, eE_size, eE_isAg, Nat.zero_add, isAg_ag, modeOf, noPtrs, go_sem]
    try exact D.Le.refl _
   have d1 : (k == 1) = false := beq_false_of_ne c1
   by_cases c2 : k' = 1
   ·have d2 : (k' == 1) = true := by simp [c2]
    rw [if_pos (.inr c2)]
    simp +contextual -implicitDefEqProofs only [k_l02Dot, d1, d2, eI, Nat.zero_add, Nat.add_zero, List.append_nil, D.size, D.sizeL, sub_agf, isAg_ag, List.getD_cons_zero, go_sem]
    refine callQ_self (ds := []) (by rfl) (hc1 ()) ?_
    simp +contextual -implicitDefEqProofs only [D.put, encE.sub, eE_size, eE_isAg, Nat.zero_add, isAg_ag, modeOf, noPtrs, go_sem]
    try exact D.Le.refl _
   have d2 : (k' == 1) = false := beq_false_of_ne c2
   rw [if_neg (fun h => h.elim c1 c2)]
   by_cases c3 : k = 2
   ·have d3 : (k == 2) = true := by simp [c3]
    rw [if_pos c3]
    simp +contextual -implicitDefEqProofs only [k_l02Dot, d1, d2, d3, eI, Nat.zero_add, Nat.add_zero, List.append_nil, D.size, D.sizeL, sub_agf, isAg_ag, List.getD_cons_zero, go_sem]
    refine callQ_self (ds := [.pt (eE b) 0]) (by rw [hB]; rfl) (hc2 b hfb) ?_
    simp +contextual -implicitDefEqProofs only [D.put, encE.sub, eE_size, eE_isAg, Nat.zero_add, isAg_ag, modeOf, noPtrs, go_sem]
    try exact D.Le.refl _
   have d3 : (k == 2) = false := beq_false_of_ne c3
   rw [if_neg c3]
   by_cases c4 : k' = 2
   ·have d4 : (k' == 2) = true := by simp [c4]
    rw [if_pos c4]
    simp +contextual -implicitDefEqProofs only [k_l02Dot, d1, d2, d3, d4, eI, Nat.zero_add, Nat.add_zero, List.append_nil, D.size, D.sizeL, sub_agf, isAg_ag, List.getD_cons_zero, go_sem]
    refine callQ_self (ds := [.pt (eE a) 0]) (by rw [hA]; rfl) (hc2 a hfa) ?_
    simp +contextual -implicitDefEqProofs only [D.put, encE.sub, eE_size, eE_isAg, Nat.zero_add, isAg_ag, modeOf, noPtrs, go_sem]
    try exact D.Le.refl _
   have d4 : (k' == 2) = false := beq_false_of_ne c4
   rw [if_neg c4]
   by_cases c5 : k = 7
   ·have d5 : (k == 7) = true := by simp [c5]
    rw [if_pos c5]
    have hTa' := hTa
    rw [← ha] at hTa'
    obtain ⟨x, y, rfl, hx, hy⟩ := two_kids (.inr c5) hTa'
    simp only [dotTs]
    have hs : sizeE x + sizeE y + 1 ≤ N + 1 := by rw [← ha, sizeE_mk] at hz; simp only [sizeEs] at hz; omega
    have hxp := sizeE_pos x
    have hyp := sizeE_pos y
    have hr1 := (dotT_ok y b hy hTb).1
    simp +contextual -implicitDefEqProofs only [k_l02Dot, d1, d2, d3, d4, d5, eI, Nat.zero_add, Nat.add_zero, List.append_nil, D.size, D.sizeL, sub_agf, isAg_ag, List.getD_cons_zero, List.getD_cons_succ, go_sem]
    refine callQ_self (ds := [.pt (eE y) 0, .pt (eE b) 0]) (by rw [hB]; rfl) (ih y (by omega) hy b hTb) ?_
    generalize dotT y b = r at hr1 ⊢
    obtain ⟨rk, rn, rnn, rks, hre⟩ := Ex.ex r
    have hR : eE r = .ag [eI rk, eI rn, .ls rnn 3 (rks.map eE)] := by rw [hre, eE_mk]; rfl
    rw [hR]
    simp +contextual -implicitDefEqProofs only [eI, D.put, Nat.zero_add, Nat.add_zero, D.size, D.sizeL, sub_agf, isAg_ag, List.getD_cons_zero, List.getD_cons_succ, modeOf, noPtrs, go_sem]
    refine callQ_self (ds := [.pt (eE x) 0, .pt (eE r) 0]) (by rw [hR]; rfl) (ih x (by omega) hx r hr1) ?_
    simp +contextual -implicitDefEqProofs only [D.put, encE.sub, eE_size, eE_isAg, Nat.zero_add, isAg_ag, modeOf, noPtrs, go_sem]
    try exact D.Le.refl _
   have d5 : (k == 7) = false := beq_false_of_ne c5
   rw [if_neg c5]
   simp +contextual -implicitDefEqProofs only [k_l02Dot, d1, d2, d3, d4, d5, eI, Nat.zero_add, Nat.add_zero, List.append_nil, D.size, D.sizeL, sub_agf, isAg_ag, List.getD_cons_zero, go_sem]
   refine callQ_self (ds := [.pt (eE a) 0]) (by rw [hA]; rfl) (hc2 a hfa) ?_
   simp +contextual -implicitDefEqProofs only [go_sem]
   refine callQ_self (ds := [.pt (eE b) 0]) (by rw [hB]; rfl) (hc2 b hfb) ?_
   simp +contextual -implicitDefEqProofs only [go_sem]
   refine callP_self rfl hc3 (by simp only [AV.aggV, itemOk, eE_isAg, eE_size, go_sem, Bool.and_self] <;> rfl) (by simp only [AV.aggV, itemOk, eE_isAg, eE_size, go_sem, Bool.and_self] <;> rfl) ?_
   rw [eE_pr]
   simp +contextual -implicitDefEqProofs only [Bool.or_self, D.put, D.cells, Nat.zero_add, Nat.add_zero, List.append_nil, D.size, D.sizeL, sub_agt, isAg_ag, List.drop_zero, List.take_succ_cons, List.take_zero, modeOf, noPtrs, go_sem]
   simp [eE_size]
 exact fun hTa b hTb => key _ a (Nat.le_refl _) hTa b hTb

def k_l02Star (f1 f2 f3 : Nat) : RC := (.seq (.r [.o (.zer 2 3 .ze)]) (.seq (.seq (.r [.m 3 0, .c 4 f1 [.t 3]]) (.cond (.t 4) (.seq (.r [.c 5 f2 [], .s 3 2 5]) .ret) .skip)) (.seq (.seq (.r [.m 6 0, .n 7 6, .f 8 0 7, .l 9 1 8, .q 10 9 8]) (.cond (.t 10) (.seq (.r [.m 11 0, .c 12 f3 [.t 11], .s 3 2 12]) .ret) .skip)) (.seq (.r [.m 13 0, .c 14 f3 [.t 13], .o (.bs 15 3 .ze 1 [(0, (.t 14))]), .o (.bld 16 .ze [(0, 1, (.ci 8)), (2, 1, (.t 15))]), .s 3 2 16]) .ret))))
def K_l02Star (P : Program) (fno : Nat) : Prop := ∀ (g0 : Int × Int) (_ : okG g0 = true) (a : Ex), treeE g0 a = true → AF P fno [.pt (eE a) 0] (.own (eE (starT a)))
theorem a_l02Star {P : Program} (hm : P.follows .mixedOrders = true) {g f1 f2 f3 : Nat} (hr : resF P g = some (17, k_l02Star f1 f2 f3, [.c 2 3 true])) (hc1 : K_l01Condition P f1) (hc2 : K_l02One P f2) (hc3 : K_l01Own P f3) : K_l02Star P g := by
 intro g0 hg a hTa
 have hfa := fit_tree hg a hTa
 unfold starT
 refine af_of_res hr hm rfl fun _ => ?_
 simp +contextual -implicitDefEqProofs only [k_l02Star, Nat.zero_add, Nat.add_zero, List.append_nil, D.size, D.sizeL, go_sem]
 refine callQ_self (ds := [.pt (eE a) 0]) (by rfl) (hc1 a) ?_
 cases hc : condE a with
 | true =>
  simp +contextual -implicitDefEqProofs only [eB, go_sem]
  refine callQ_self (ds := []) (by rfl) (hc2 ()) ?_
  simp +contextual -implicitDefEqProofs only [D.put, encE.sub, eE_size, eE_isAg, Nat.zero_add, isAg_ag, modeOf, noPtrs, go_sem]
  try exact D.Le.refl _
 | false =>
  obtain ⟨k, n, nn, ks, ha⟩ := Ex.ex a
  have hA : eE a = .ag [eI k, eI n, .ls nn 3 (ks.map eE)] := by rw [ha, eE_mk]; rfl
  have hak : a.k = k := by rw [ha]; rfl
  rw [hak]
  simp only [hA]
  by_cases c1 : k = 8
  ·have d1 : (k == 8) = true := by simp [c1]
   rw [if_pos c1]
   simp +contextual -implicitDefEqProofs only [d1, eI, eB, Nat.zero_add, Nat.add_zero, D.size, D.sizeL, sub_agf, isAg_ag, List.getD_cons_zero, go_sem]
   refine callQ_self (ds := [.pt (eE a) 0]) (by rw [hA]; rfl) (hc3 a hfa) ?_
   simp +contextual -implicitDefEqProofs only [D.put, encE.sub, eE_size, eE_isAg, Nat.zero_add, isAg_ag, modeOf, noPtrs, go_sem]
   try exact D.Le.refl _
  have d1 : (k == 8) = false := beq_false_of_ne c1
  rw [if_neg c1]
  simp +contextual -implicitDefEqProofs only [d1, eI, eB, Nat.zero_add, Nat.add_zero, D.size, D.sizeL, sub_agf, isAg_ag, List.getD_cons_zero, go_sem]
  refine callQ_self (ds := [.pt (eE a) 0]) (by rw [hA]; rfl) (hc3 a hfa) ?_
  rw [show eE (.mk 8 0 (some false) [cpE a]) = .ag [.sc (.int .i64 8), .sc (.int .i64 0), .ls (some false) 3 [eE (cpE a)]] by rw [eE_mk]; rfl]
  simp +contextual -implicitDefEqProofs only [List.any_cons, List.any_nil, Bool.or_self, D.put, D.cells, eE_size, Nat.zero_add, Nat.add_zero, List.append_nil, D.size, D.sizeL, sub_agt, isAg_ag, List.drop_zero, List.take_succ_cons, List.take_zero, List.drop_succ_cons, modeOf, noPtrs, go_sem]
  exact ⟨rfl, by simp [eE_size]⟩

def k_l02Tidy (g f1 f2 f3 f4 : Nat) : RC := (.seq (.r [.o (.zer 2 3 .ze)]) (.seq (.seq (.r [.m 6 0, .n 7 6, .f 8 0 7, .l 9 1 8]) (.blk 0 (.seq (.seq (.r [.q 11 9 6, .m 10 11]) (.cond (.t 10) .skip (.r [.q 12 9 7, .m 10 12]))) (.cond (.t 10) (.seq (.r [.m 13 0, .n 14 13, .f 15 2 14, .l 16 1 15, .i 17 3 16 0, .c 18 g [.t 17], .o (.zer 3 3 .ze), .s 3 3 18]) (.seq (.r [.m 19 0, .n 20 19, .f 21 2 20, .l 22 1 21, .i 23 3 22 1, .c 24 g [.t 23], .o (.zer 4 3 .ze), .s 3 4 24]) (.seq (.seq (.r [.m 25 0, .n 26 25, .f 27 0 26, .l 28 1 27, .q 29 28 6]) (.cond (.t 29) (.seq (.r [.c 30 f1 [.t 3, .t 4], .s 3 2 30]) .ret) .skip)) (.seq (.r [.c 31 f2 [.t 3, .t 4], .s 3 2 31]) .ret)))) (.seq (.r [.q 33 9 8, .m 32 33]) (.cond (.t 32) (.seq (.r [.m 34 0, .n 35 34, .f 36 2 35, .l 37 1 36, .i 38 3 37 0, .c 39 g [.t 38], .o (.zer 5 3 .ze), .s 3 5 39]) (.seq (.r [.c 40 f3 [.t 5], .s 3 2 40]) .ret)) .skip)))))) (.seq (.r [.m 41 0, .c 42 f4 [.t 41], .s 3 2 42]) .ret)))
def K_l02Tidy (P : Program) (fno : Nat) : Prop := ∀ (g0 : Int × Int) (_ : okG g0 = true) (e : Ex), treeE g0 e = true → sizeE e ≤ 50000 → AF P fno [.pt (eE e) 0] (.own (eE (tidyE e)))
theorem a_l02Tidy {P : Program} (hm : P.follows .mixedOrders = true) {g f1 f2 f3 f4 : Nat} (hr : resF P g = some (43, k_l02Tidy g f1 f2 f3 f4, [.c 2 3 true])) (hc1 : K_l02Sum P f1) (hc2 : K_l02Dot P f2) (hc3 : K_l02Star P f3) (hc4 : K_l01Own P f4) : K_l02Tidy P g := by
 intro g0 hg
 have key : ∀ N : Nat, ∀ e : Ex, sizeE e ≤ N → treeE g0 e = true → sizeE e ≤ 50000 → AF P g [.pt (eE e) 0] (.own (eE (tidyE e))) := by
  intro N
  induction N with
  | zero => intro e hz; have := sizeE_pos e; omega
  | succ N ih =>
   intro e hz hTe hle
   have hfe := fit_tree hg e hTe
   obtain ⟨k, n, nn, ks, rfl⟩ := Ex.ex e
   rw [tidyE]
   generalize he : Ex.mk k n nn ks = e at *
   have hE : eE e = .ag [eI k, eI n, .ls nn 3 (ks.map eE)] := by rw [← he, eE_mk]; rfl
   refine af_of_res hr hm rfl fun _ => ?_
   simp only [st0_eq, argEnv_cons, argEnv_nil, hE]
   by_cases c6 : k = 6
   ·have d6 : (k == 6) = true := by simp [c6]
    rw [if_pos c6]
    have hT' := hTe
    rw [← he] at hT'
    obtain ⟨x, y, rfl, hx, hy⟩ := two_kids (.inl c6) hT'
    have hs : 1 + (sizeE x + sizeE y) = sizeE e := by rw [← he, sizeE_mk]; simp [sizeEs]
    obtain ⟨hx1, hx2⟩ := tidyE_ok x hx
    obtain ⟨hy1, hy2⟩ := tidyE_ok y hy
    have hxp := sizeE_pos x
    have hyp := sizeE_pos y
    simp only [tidyEs, List.getD_cons_zero, List.getD_cons_succ]
    simp +contextual -implicitDefEqProofs only [k_l02Tidy, d6, eI, Nat.zero_add, Nat.add_zero, List.append_nil, D.size, D.sizeL, sub_agf, isAg_ag, List.getD_cons_zero, List.getD_cons_succ, go_sem]
    refine callQ_self (ds := [.pt (eE x) 0]) (by rfl) (ih x (by omega) hx (by omega)) ?_
    simp +contextual -implicitDefEqProofs only [D.put, eE_size, Nat.zero_add, Nat.add_zero, D.size, D.sizeL, sub_agf, isAg_ag, List.getD_cons_zero, List.getD_cons_succ, modeOf, noPtrs, go_sem]
    refine callQ_self (ds := [.pt (eE y) 0]) (by rfl) (ih y (by omega) hy (by omega)) ?_
    simp +contextual -implicitDefEqProofs only [d6, D.put, eE_size, Nat.zero_add, Nat.add_zero, D.size, D.sizeL, sub_agf, isAg_ag, List.getD_cons_zero, modeOf, noPtrs, go_sem]
    refine callQ_self (ds := [.pt (eE (tidyE x)) 0, .pt (eE (tidyE y)) 0]) (by rfl) (hc1 g0 hg (tidyE x) (tidyE y) hx1 hy1 (by omega)) ?_
    simp +contextual -implicitDefEqProofs only [D.put, encE.sub, eE_size, eE_isAg, Nat.zero_add, isAg_ag, modeOf, noPtrs, go_sem]
    try exact D.Le.refl _
   have d6 : (k == 6) = false := beq_false_of_ne c6
   rw [if_neg c6]
   by_cases c7 : k = 7
   ·have d7 : (k == 7) = true := by simp [c7]
    rw [if_pos c7]
    have hT' := hTe
    rw [← he] at hT'
    obtain ⟨x, y, rfl, hx, hy⟩ := two_kids (.inr c7) hT'
    have hs : 1 + (sizeE x + sizeE y) = sizeE e := by rw [← he, sizeE_mk]; simp [sizeEs]
    obtain ⟨hx1, hx2⟩ := tidyE_ok x hx
    obtain ⟨hy1, hy2⟩ := tidyE_ok y hy
    have hxp := sizeE_pos x
    have hyp := sizeE_pos y
    simp only [tidyEs, List.getD_cons_zero, List.getD_cons_succ]
    simp +contextual -implicitDefEqProofs only [k_l02Tidy, d6, d7, eI, Nat.zero_add, Nat.add_zero, List.append_nil, D.size, D.sizeL, sub_agf, isAg_ag, List.getD_cons_zero, List.getD_cons_succ, go_sem]
    refine callQ_self (ds := [.pt (eE x) 0]) (by rfl) (ih x (by omega) hx (by omega)) ?_
    simp +contextual -implicitDefEqProofs only [D.put, eE_size, Nat.zero_add, Nat.add_zero, D.size, D.sizeL, sub_agf, isAg_ag, List.getD_cons_zero, List.getD_cons_succ, modeOf, noPtrs, go_sem]
    refine callQ_self (ds := [.pt (eE y) 0]) (by rfl) (ih y (by omega) hy (by omega)) ?_
    simp +contextual -implicitDefEqProofs only [d6, D.put, eE_size, Nat.zero_add, Nat.add_zero, D.size, D.sizeL, sub_agf, isAg_ag, List.getD_cons_zero, modeOf, noPtrs, go_sem]
    refine callQ_self (ds := [.pt (eE (tidyE x)) 0, .pt (eE (tidyE y)) 0]) (by rfl) (hc2 g0 hg (tidyE x) hx1 (tidyE y) hy1) ?_
    simp +contextual -implicitDefEqProofs only [D.put, encE.sub, eE_size, eE_isAg, Nat.zero_add, isAg_ag, modeOf, noPtrs, go_sem]
    try exact D.Le.refl _
   have d7 : (k == 7) = false := beq_false_of_ne c7
   rw [if_neg c7]
   by_cases c8 : k = 8
   ·have d8 : (k == 8) = true := by simp [c8]
    rw [if_pos c8]
    have hT' := hTe
    rw [← he] at hT'
    obtain ⟨x, rfl, hx⟩ : ∃ x, ks = [x] ∧ treeE g0 x = true := by
     have hf := tree_form hT'
     have hk := tree_kids hT'
     rw [c8] at hf
     match ks, hf, hk with
     | [x], _, hk => exact ⟨x, rfl, hk x (by simp)⟩
     | [], hf, _ => simp [formOk, kidsN] at hf
     | _ :: _ :: _, hf, _ => simp [formOk, kidsN] at hf; omega
    have hs : 1 + sizeE x = sizeE e := by rw [← he, sizeE_mk]; simp [sizeEs]
    obtain ⟨hx1, hx2⟩ := tidyE_ok x hx
    simp only [tidyEs, List.getD_cons_zero]
    simp +contextual -implicitDefEqProofs only [k_l02Tidy, d6, d7, d8, eI, Nat.zero_add, Nat.add_zero, List.append_nil, D.size, D.sizeL, sub_agf, isAg_ag, List.getD_cons_zero, List.getD_cons_succ, go_sem]
    refine callQ_self (ds := [.pt (eE x) 0]) (by rfl) (ih x (by omega) hx (by omega)) ?_
    simp +contextual -implicitDefEqProofs only [D.put, eE_size, Nat.zero_add, Nat.add_zero, D.size, D.sizeL, isAg_ag, modeOf, noPtrs, go_sem]
    refine callQ_self (ds := [.pt (eE (tidyE x)) 0]) (by rfl) (hc3 g0 hg (tidyE x) hx1) ?_
    simp +contextual -implicitDefEqProofs only [D.put, encE.sub, eE_size, eE_isAg, Nat.zero_add, isAg_ag, modeOf, noPtrs, go_sem]
    try exact D.Le.refl _
   have d8 : (k == 8) = false := beq_false_of_ne c8
   rw [if_neg c8]
   simp +contextual -implicitDefEqProofs only [k_l02Tidy, d6, d7, d8, eI, Nat.zero_add, Nat.add_zero, List.append_nil, D.size, D.sizeL, sub_agf, isAg_ag, List.getD_cons_zero, go_sem]
   refine callQ_self (ds := [.pt (eE e) 0]) (by rw [hE]; rfl) (hc4 e hfe) ?_
   simp +contextual -implicitDefEqProofs only [D.put, encE.sub, eE_size, eE_isAg, Nat.zero_add, isAg_ag, modeOf, noPtrs, go_sem]
   try exact D.Le.refl _
 exact fun e hT hl => key _ e (Nat.le_refl _) hT hl
def actA (k : Nat) : Ex := .mk 4 k (some true) []

def rawA : Nat → Ex
 | 0 => .mk 1 0 (some true) []
 | k + 1 => .mk 6 0 (some false) [rawA k, actA k]
def sumA : Nat → Ex
 | 0 => .mk 1 0 (some true) []
 | 1 => actA 0
 | k + 2 => .mk 6 0 (some false) [sumA (k + 1), actA (k + 1)]
def starA : Nat → Ex
 | 0 => .mk 2 0 (some true) []
 | k + 1 => .mk 8 0 (some false) [sumA (k + 1)]
theorem tidy_act {k : Nat} : tidyE (actA k) = actA k := by unfold actA; rw [tidyE]; simp [cpE_mk, nnL]
theorem cp_act {k : Nat} : cpE (actA k) = actA k := by unfold actA; rw [cpE_mk]; rfl
theorem sums_act {k : Nat} {acc : List Ex} : sumsE (actA k) acc = if acc.any (fun x => qE x (actA k)) = true then acc else acc ++ [actA k] := by
 unfold actA
 rw [sumsE, if_neg (by decide), if_neg (by decide)]
theorem sums_sum {nn : Option Bool} {a b : Ex} {acc : List Ex} : sumsE (.mk 6 0 nn [a, b]) acc = sumsE b (sumsE a acc) := by
 rw [sumsE, if_neg (by decide), if_pos rfl]
 simp only [sumsEs]
theorem sums_zero {nn : Option Bool} {acc : List Ex} : sumsE (.mk 1 0 nn []) acc = acc := by rw [sumsE, if_pos rfl]
theorem q_act {i j : Nat} : qE (actA i) (actA j) = decide (i = j) := by
 unfold actA
 rw [qE_mk]
 by_cases h : i = j
 ·simp [h, eqL]
 ·simp [h, eqL]
  omega
theorem t_act {j : Nat} : textE (actA j) = ⟨#[97]⟩ ++ decB j := by
 unfold actA
 rw [textE_mk]
 simp [textOp]
theorem lt_act {a i : Nat} (h : a < i) (hi : i < 4) : ltT (actA a) (actA i) = true := by
 have hc : (a = 0 ∧ i = 1) ∨ (a = 0 ∧ i = 2) ∨ (a = 0 ∧ i = 3) ∨ (a = 1 ∧ i = 2) ∨ (a = 1 ∧ i = 3) ∨ (a = 2 ∧ i = 3) := by omega
 rw [ltT, t_act, t_act]
 rcases hc with ⟨rfl, rfl⟩ | ⟨rfl, rfl⟩ | ⟨rfl, rfl⟩ | ⟨rfl, rfl⟩ | ⟨rfl, rfl⟩ | ⟨rfl, rfl⟩ <;> decide +kernel
theorem sumT_A : ∀ k : Nat, k < 4 → sumT (sumA k) (actA k) = sumA (k + 1) := by
 have l1 := lt_act (a := 0) (i := 1) (by omega) (by omega)
 have l2 := lt_act (a := 0) (i := 2) (by omega) (by omega)
 have l3 := lt_act (a := 0) (i := 3) (by omega) (by omega)
 have l4 := lt_act (a := 1) (i := 2) (by omega) (by omega)
 have l5 := lt_act (a := 1) (i := 3) (by omega) (by omega)
 have l6 := lt_act (a := 2) (i := 3) (by omega) (by omega)
 intro k hk
 have hc : k = 0 ∨ k = 1 ∨ k = 2 ∨ k = 3 := by omega
 rcases hc with rfl | rfl | rfl | rfl <;> simp [sumT, sumA, sums_zero, sums_act, sums_sum, q_act, sortE, insE, l1, l2, l3, l4, l5, l6, sumTs, cp_act]
theorem tidy_raw : ∀ k : Nat, k ≤ 4 → tidyE (rawA k) = sumA k
 | 0, _ => by rw [rawA, tidyE]; simp [sumA, cpE_mk, nnL]
 | k + 1, h => by
  rw [rawA, tidyE]
  simp only [tidyEs, List.getD_cons_zero, List.getD_cons_succ, tidy_raw k (by omega), tidy_act, if_true]
  exact sumT_A k (by omega)
theorem sumA_c : ∀ k : Nat, condE (sumA (k + 1)) = false ∧ (sumA (k + 1)).k ≠ 8 ∧ cpE (sumA (k + 1)) = sumA (k + 1)
 | 0 => ⟨rfl, by decide, cp_act⟩
 | k + 1 => by
  obtain ⟨h1, _, h3⟩ := sumA_c k
  refine ⟨?_, by show (6 : Int) ≠ 8; decide, ?_⟩
  ·rw [sumA, condE_mk]; simp [h1]
  ·rw [sumA, cpE_mk]; simp [h3, cp_act, nnL]
theorem tidy_star {k : Nat} (h : k ≤ 4) : tidyE (.mk 8 0 (some false) [rawA k]) = starA k := by
 rw [tidyE, if_neg (by decide), if_neg (by decide), if_pos rfl]
 simp only [tidyEs, List.getD_cons_zero, tidy_raw k h]
 cases k with
 | zero => rfl
 | succ k =>
  obtain ⟨h1, h2, h3⟩ := sumA_c k
  rw [starT, h1, if_neg (by decide), if_neg h2, h3, starA]
theorem raw_tree {g : Int × Int} (hg : okG g = true) : ∀ k : Nat, (k : Int) ≤ g.2 → treeE g (rawA k) = true ∧ sizeE (rawA k) ≤ 1 + 2 * k
 | 0, _ => ⟨by rw [rawA]; exact tree_leaf (.inl rfl), by rw [rawA, sizeE_mk]; simp [sizeEs]⟩
 | k + 1, h => by
  obtain ⟨h1, h2⟩ := raw_tree hg k (by omega)
  have hb : 0 ≤ g.1 ∧ g.1 ≤ 3 ∧ 0 ≤ g.2 ∧ g.2 ≤ 4 := by simp [okG, isIn] at hg; omega
  have hw : IntKind.i64.wrap (g.2 - 1) = g.2 - 1 := wrap_i64 (by omega) (by omega)
  have ha : treeE g (actA k) = true := by
   unfold actA
   rw [treeE_mk]
   simp [formOk, kidsN, isIn, hw]
   omega
  refine ⟨by rw [rawA, tree_two (.inl rfl), h1, ha]; rfl, ?_⟩
  rw [rawA, sizeE_mk]
  simp only [sizeEs, actA, sizeE_mk]
  omega

def k_allWords (f1 f2 f3 f4 : Nat) : RC := (.seq (.r [.b 1 2 0, .o (.zer 2 3 .ze), .v 3 (.ci 0)]) (.seq (.seq (.r [.L 7 2 1, .c 8 f1 [.t 7], .o (.un 9 .not (.t 8))]) (.cond (.t 9) (.seq (.r [.o (.bld 10 .ze []), .s 3 2 10, .v 3 (.ci 1)]) .ret) .skip)) (.seq (.r [.c 11 f2 [], .o (.zer 4 3 .ze), .s 3 4 11]) (.seq (.seq (.r [.v 5 (.ci 0)]) (.blk 0 (.loop (.seq (.seq (.r [.m 12 5, .f 13 1 1, .l 14 1 13, .o (.bin 15 .lss (.t 12) (.t 14))]) (.cond (.t 15) .skip (.exit 0))) (.seq (.blk 1 (.r [.L 18 3 4, .m 19 5, .o (.bld 20 .ze [(0, 1, (.ci 4)), (1, 1, (.t 19))]), .c 21 f3 [.ci 6, .t 18, .t 20], .s 3 4 21])) (.r [.m 16 5, .o (.bin 17 .add (.t 16) (.ci 1)), .m 5 17])))))) (.seq (.r [.L 22 3 4, .o (.bs 23 3 .ze 1 [(0, (.t 22))]), .o (.bld 24 .ze [(0, 1, (.ci 8)), (2, 1, (.t 23))]), .o (.zer 6 3 .ze), .s 3 6 24]) (.seq (.r [.c 25 f4 [.t 6], .s 3 2 25, .v 3 (.ci 0)]) .ret))))))
def K_allWords (P : Program) (fno : Nat) : Prop := ∀ (g0 : Int × Int) (hg : okG g0 = true), AF P fno [eG g0] (.tup [.own (eE (starA g0.2.toNat)), .own (eI 0)])
theorem a_allWords {P : Program} (hm : P.follows .mixedOrders = true) {g f1 f2 f3 f4 : Nat} (hr : resF P g = some (26, k_allWords f1 f2 f3 f4, [.c 2 3 true, .t 3])) (hc1 : K_l01Sig P f1) (hc2 : K_l02Zero P f2) (hc3 : K_l02PairX P f3) (hc4 : K_l02Tidy P f4) : K_allWords P g := by
 intro g0 hg
 obtain ⟨t, a⟩ := g0
 have hb2 : 0 ≤ t ∧ t ≤ 3 ∧ 0 ≤ a ∧ a ≤ 4 := by simp [okG, isIn] at hg; omega
 obtain ⟨k, rfl⟩ : ∃ k : Nat, a = k := ⟨a.toNat, by omega⟩
 refine af_of_res hr hm rfl fun hb => ?_
 simp +contextual -implicitDefEqProofs only [k_allWords, eG, eI, D.size, D.sizeL, sub_agt, isAg_ag, D.at, List.getD_cons_zero, List.drop_zero, List.take_succ_cons, List.take_zero, go_sem]
 refine callQ_self (ds := [eG (t, (k : Int))]) (by rfl) (hc1 (t, (k : Int))) ?_
 rw [hg]
 simp +contextual -implicitDefEqProofs only [eB, go_sem]
 refine callQ_self (ds := []) (by rfl) (hc2 ()) ?_
 simp +contextual -implicitDefEqProofs only [D.put, eE_mk, D.size, D.sizeL, isAg_ag, D.at, List.getD_cons_zero, modeOf, noPtrs, go_sem]
 refine vc_onU (α := Nat) [5, 12, 13, 14, 15, 16, 17, 18, 19, 20, 21] (fun i => [(5, .im none (.sc (.int .i64 i)))]) (fun i => [(4, .ar true (some false) 3 [eE (rawA i)]), (2, .ar true (some false) 3 [.ag [.sc (.int .i64 0), .sc (.int .i64 0), .ls (some true) 3 []]]), (1, .ar false (some false) 2 [.ag [.sc (.int .i64 t), .sc (.int .i64 k)]])]) (fun i => i ≤ k) (fun i => k - i) 0 (Ent.to [] (by simp only [go_sem]; rfl) rfl (by simp [rawA, eE_mk]) (by rfl) (by simp only [subEnv, go_sem, keep, memN] <;> simp)) (Nat.zero_le _) ?_
 intro i hi0
 by_cases hi : i < k
 ·simp +contextual -implicitDefEqProofs only [hi, encE.sub, eE_isAg, D.size, sub_agf, isAg_ag, D.at, List.getD_cons_zero, List.getD_cons_succ, List.drop_zero, List.take_zero, List.drop_succ_cons, go_sem, iL]
  refine callP_self rfl hc3 (by simp only [AV.aggV, itemOk, go_sem, Bool.and_self] <;> rfl) (by simp only [AV.aggV, itemOk, AV.size, D.size, go_sem, bne, Bool.and_self] <;> rfl) ?_
  simp +contextual -implicitDefEqProofs only [Bool.or_self, D.put, D.cells, encE.sub, eE_isAg, D.size, D.sizeL, isAg_ag, D.at, List.getD_cons_zero, modeOf, noPtrs, go_sem]
  refine ⟨by simp [eE_size, D.size, D.sizeL], i + 1, by omega, by omega, ?_⟩
  rw [wrap_i64 (by omega) (by omega)]
  exact Ent.to [] (by simp only [go_sem]; rfl) rfl (by simp [rawA, actA, eE_mk]) (by rfl) (by simp only [subEnv, go_sem] <;> simp)
 ·obtain rfl : i = k := by omega
  simp +contextual -implicitDefEqProofs only [hi, List.any_cons, List.any_nil, Bool.or_self, D.put, D.cells, encE.sub, eE_isAg, D.size, D.sizeL, sub_agf, isAg_ag, D.at, List.getD_cons_zero, List.getD_cons_succ, List.drop_zero, List.take_succ_cons, List.take_zero, List.drop_succ_cons, modeOf, noPtrs, go_sem, iL]
  refine ⟨rfl, by simp [eE_size], callQ_self (ds := [.pt (eE (.mk 8 0 (some false) [rawA i])) 0]) (by rw [eE_mk]; rfl) (hc4 (t, (i : Int)) hg _ (by rw [tree_one]; exact (raw_tree hg i (by simp)).1) (by have := (raw_tree hg i (by simp)).2; rw [sizeE_mk]; simp only [sizeEs]; omega)) ?_⟩
  rw [tidy_star (by omega)]
  simp +contextual -implicitDefEqProofs only [D.put, encE.sub, eE_size, eE_isAg, isAg_ag, D.at, List.getD_cons_zero, modeOf, noPtrs, go_sem]
set_option maxHeartbeats 1000000

theorem relE_sumA {m : Mo} : ∀ {k x y : Nat}, relE m (sumA k) x y = true ↔ ∃ j : Nat, j < k ∧ relOf (actOf m (j : Int)) x y = true
 | 0, x, y => by rw [sumA, relE_mk]; simp [relOp, noneR]
 | 1, x, y => by
  rw [sumA, actA, relE_mk]
  simp only [relOp]
  constructor
  ·intro h; exact ⟨0, by omega, by simpa using h⟩
  ·rintro ⟨j, hj, h⟩
   obtain rfl : j = 0 := by omega
   simpa using h
 | k + 2, x, y => by
  have ih := relE_sumA (m := m) (k := k + 1) (x := x) (y := y)
  have e4 : relE m (actA (k + 1)) x y = relOf (actOf m ((k + 1 : Nat) : Int)) x y := by
   rw [actA, relE_mk]; simp [relOp]
  rw [sumA, relE_mk]
  simp only [relOp, lC, lN, List.getD_cons_zero, List.getD_cons_succ]
  simp only [show ¬ ((6 : Int) = 2) by decide, show ¬ ((6 : Int) = 3) by decide, show ¬ ((6 : Int) = 4) by decide, show ¬ ((6 : Int) = 5) by decide, if_false, if_true, Bool.or_eq_true]
  rw [ih, e4]
  constructor
  ·rintro (⟨j, hj, h⟩ | h)
   ·exact ⟨j, by omega, h⟩
   ·exact ⟨k + 1, by omega, h⟩
  ·rintro ⟨j, hj, h⟩
   by_cases hjk : j < k + 1
   ·exact .inl ⟨j, hjk, h⟩
   ·obtain rfl : j = k + 1 := by omega
    exact .inr h
theorem relE_starA {m : Mo} {n k : Nat} (hn : m.2.1 = n) : relE m (starA (k + 1)) = starR n (relE m (sumA (k + 1))) := by
 rw [starA, relE_mk]
 simp [relOp, hn]
theorem all_closed {m : Mo} {n k : Nat} {s : List Int} (hn : m.2.1 = n) (hk : m.2.2.2.2.length = k) (v : Int) (x : Int) (y : Nat) (h0 : 0 ≤ v) (hv : v.toNat < m.2.2.2.2.length)
  (hx : x ∈ imL (hitF (relE m (starA k)) s) n) (hy : y < n) (hr : relOf (actOf m v) x.toNat y = true) : (y : Int) ∈ imL (hitF (relE m (starA k)) s) n := by
 obtain ⟨k, rfl⟩ : ∃ k', k = k' + 1 := ⟨k - 1, by omega⟩
 obtain ⟨i, hi, h2, rfl⟩ := imL_mem.1 hx
 refine imL_mem.2 ⟨y, hy, ?_, rfl⟩
 simp only [hitF, List.any_eq_true] at h2 ⊢
 obtain ⟨p, hp, hR⟩ := h2
 refine ⟨p, hp, ?_⟩
 rw [relE_starA hn] at hR ⊢
 refine star_trans hi hR (star_one (relE_sumA.2 ⟨v.toNat, by omega, ?_⟩))
 rw [show ((v.toNat : Nat) : Int) = v by omega]
 exact hr
set_option maxHeartbeats 2000000
theorem moOk_okMo' {m : Mo} {n : Nat} (h : MoOk m n) : okMo m = true := by
 have h1 := h.pts
 have h2 := h.n1
 have h3 := h.n8
 have hin : isIn m.2.1 1 8 = true := isIn_iff'.2 (by omega)
 simp only [okMo, testsOk, actsOk, tabOk, lenIs, h.g, hin, bA, beq_iff_eq, bI, List.all_eq_true]
 exact ⟨⟨h.tl, fun r hr => by rw [h.tr r hr, h1]⟩, h.al, fun a ha => ⟨by rw [(h.asq a ha).len, h1], fun r hr => by rw [(h.asq a ha).row r hr, h1]⟩⟩
theorem imL_nodup {f : Nat → Bool} {n : Nat} : (imL f n).Nodup := by
 unfold imL
 rw [List.nodup_iff_pairwise_ne, List.pairwise_map]
 refine List.Pairwise.imp ?_ (List.Pairwise.filter _ List.nodup_range)
 intro a b hab h
 exact hab (by omega)
theorem okE_starA {g : Int × Int} (hg : okG g = true) : okE g (starA g.2.toNat) = true := by
 obtain ⟨t, a⟩ := g
 have hb : 0 ≤ t ∧ t ≤ 3 ∧ 0 ≤ a ∧ a ≤ 4 := by simp [okG, isIn] at hg; omega
 have hc : a = 0 ∨ a = 1 ∨ a = 2 ∨ a = 3 ∨ a = 4 := by omega
 have w : ∀ x : Int, 0 ≤ x → x ≤ 4 → IntKind.i64.wrap (x - 1) = x - 1 := fun x _ _ => wrap_i64 (by omega) (by omega)
 rcases hc with rfl | rfl | rfl | rfl | rfl <;>
  simp [okE, starA, sumA, actA, sizeE_mk, depthE_mk, treeE_mk, sizeEs, depthEs, formOk, kidsN, isIn] <;> decide

theorem restr_all {m : Mo} {n : Nat} {e : Ex} {s : List Int} (hmo : okMo m = true) (hn : m.2.1 = n) (he : Drn m.1 false 15 7 e) (hs : isSetB n s = true) :
  ∃ l : List Int, (∀ z, imgS z m (starA m.1.2.toNat) s = ((some false, l), 0)) ∧ restrM m l = (if l = [] then (zMo, 2) else (pickMo m l, 0)) ∧ (∀ z, relS z m e = (rTab n (relE m e), 0)) ∧ l.length ≤ 8 ∧ (∀ x ∈ l, 0 ≤ x ∧ x.toNat < n) ∧
   (l ≠ [] → okMo (pickMo m l) = true ∧ (∀ z, relS z (pickMo m l) e = (rTab l.length (relE (pickMo m l) e), 0)) ∧ ∀ x y, x < l.length → y < l.length → relE (pickMo m l) e x y = relE m e (l.getD x 0).toNat (l.getD y 0).toNat) := by
 obtain ⟨n', hM⟩ := okMo_ok hmo
 obtain rfl : n = n' := by have := hM.pts; omega
 have oe := okE_drn he (by omega)
 have os := okE_starA hM.g
 have hq : askR m (starA m.1.2.toNat) s = 0 := by simp [askR, hmo, os, hn, hs]
 have hset : isSetB m.2.1 (imL (hitF (relE m (starA m.1.2.toNat)) s) n) = true := by rw [hn]; exact imL_set
 have hr : ∀ x ∈ imL (hitF (relE m (starA m.1.2.toNat)) s) n, 0 ≤ x ∧ x.toNat < n := fun x hx => by have := set_mem hM hset hx; omega
 have h8 : (imL (hitF (relE m (starA m.1.2.toNat)) s) n).length ≤ 8 := by
  have := imL_len (f := hitF (relE m (starA m.1.2.toNat)) s) (n := n)
  have := hM.n8
  omega
 have hk : m.2.2.2.2.length = m.1.2.toNat := by have := hM.al; omega
 refine ⟨_, fun z => setS_ok hM hq, ?_, fun z => relS_eq hmo oe hM, h8, hr, fun h0 => ?_⟩
 ·by_cases h : imL (hitF (relE m (starA m.1.2.toNat)) s) n = []
  ·simp [restrM, hmo, h]
  ·simp [restrM, hmo, h, hset]
 ·have hE := pick_emb hM (List.length_pos_iff.2 h0) h8 hr imL_nodup fun v x y h0 hv hx hy hrel => all_closed hn hk v x y h0 hv hx hy hrel
  exact ⟨moOk_okMo' hE.ok, fun z => relS_eq (moOk_okMo' hE.ok) oe hE.ok, fun x y hx hy => ((hE.rel e he.1).at hE.lt hE.inj hx hy).symm⟩
end Go.Ax
