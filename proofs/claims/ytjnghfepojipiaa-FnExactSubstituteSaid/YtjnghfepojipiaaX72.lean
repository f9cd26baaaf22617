/- Contracts of functions of the seat, proved over the engine. No condition. -/
import Derived.Test.YtjnghfepojipiaaEnI
import Derived.Test.YtjnghfepojipiaaX10
import Derived.Test.YtjnghfepojipiaaX21
import Derived.Test.YtjnghfepojipiaaX63
set_option linter.unusedSimpArgs false
set_option linter.unusedVariables false
set_option linter.unnecessarySimpa false
namespace Go.Ax
set_option linter.unusedSimpArgs false
set_option maxRecDepth 20000
set_option maxHeartbeats 4000000
def mx (a b : Int) : Int := if a > b then a else b
mutual
def topE (kd : Int) : Ex → Int
  | .mk k n _ ks => if k = kd then n + 1 else topEs kd ks 0
def topEs (kd : Int) : List Ex → Int → Int
  | [] => fun a => a
  | e :: es => fun a => topEs kd es (mx a (topE kd e))
end
theorem topE_mk {kd k n : Int} {nn : Option Bool} {ks : List Ex} : topE kd (.mk k n nn ks) = if k = kd then n + 1 else topEs kd ks 0 := by rw [topE]
theorem topEs_append {kd : Int} : ∀ {a b : List Ex} {x : Int}, topEs kd (a ++ b) x = topEs kd b (topEs kd a x)
  | [], _, _ => rfl
  | e :: a, b, x => by simp only [List.cons_append, topEs, topEs_append (a := a)]
theorem topEs_succ {kd : Int} {l : List Ex} {i : Nat} (h : i < l.length) {x : Int} : topEs kd (l.take (i + 1)) x = mx (topEs kd (l.take i) x) (topE kd l[i]) := by
  rw [List.take_succ_eq_append_getElem h, topEs_append]; rfl
theorem mx_ge {a b : Int} : a ≤ mx a b ∧ b ≤ mx a b := by unfold mx; split <;> omega
theorem mx_or {a b : Int} : mx a b = a ∨ mx a b = b := by unfold mx; split <;> omega
theorem topEs_ge {kd : Int} : ∀ {l : List Ex} {x : Int}, x ≤ topEs kd l x ∧ ∀ e ∈ l, topE kd e ≤ topEs kd l x
  | [], x => ⟨Int.le_refl _, by simp⟩
  | e :: l, x => by
    have h := topEs_ge (kd := kd) (l := l) (x := mx x (topE kd e))
    have h2 := @mx_ge x (topE kd e)
    simp only [topEs]
    refine ⟨by omega, fun y hy => ?_⟩
    rcases List.mem_cons.1 hy with rfl | hy
    · omega
    · exact h.2 y hy
theorem topEs_le {kd B : Int} : ∀ {l : List Ex} {x : Int}, x ≤ B → (∀ e ∈ l, topE kd e ≤ B) → topEs kd l x ≤ B
  | [], x, h, _ => h
  | e :: l, x, h, hl => by
    simp only [topEs]
    have := @mx_or x (topE kd e)
    have := hl e (by simp)
    exact topEs_le (by omega) fun y hy => hl y (by simp [hy])
theorem mx_topEs {kd : Int} : ∀ {l : List Ex} {x y : Int}, topEs kd l (mx x y) = mx x (topEs kd l y)
  | [], _, _ => rfl
  | e :: l, x, y => by
    simp only [topEs]
    rw [← mx_topEs]
    congr 1
    unfold mx
    repeat' split
    all_goals omega

def wide : Int × Int := (3, 4)
theorem leaf3 {n : Int} {ks : List Ex} (h : formOk wide 3 n ks = true) : ks = [] ∧ 0 ≤ n ∧ n ≤ 2 := by
  rw [formOk, Bool.and_eq_true] at h
  obtain ⟨h1, h2⟩ := h
  rw [if_pos rfl] at h2
  have e : IntKind.i64.wrap (wide.1 - 1) = 2 := by decide
  rw [e] at h2
  simp only [isIn, Bool.and_eq_true, decide_eq_true_eq] at h2
  have h3 : (0 : Int) = ks.length := by simpa [kidsN] using h1
  exact ⟨List.eq_nil_of_length_eq_zero (by omega), h2.1, h2.2⟩
theorem leaf4 {n : Int} {ks : List Ex} (h : formOk wide 4 n ks = true) : ks = [] ∧ 0 ≤ n ∧ n ≤ 3 := by
  rw [formOk, Bool.and_eq_true] at h
  obtain ⟨h1, h2⟩ := h
  rw [if_neg (by decide), if_pos rfl] at h2
  have e : IntKind.i64.wrap (wide.2 - 1) = 3 := by decide
  rw [e] at h2
  simp only [isIn, Bool.and_eq_true, decide_eq_true_eq] at h2
  have h3 : (0 : Int) = ks.length := by simpa [kidsN] using h1
  exact ⟨List.eq_nil_of_length_eq_zero (by omega), h2.1, h2.2⟩
theorem top_in {kd : Int} (hk : kd = 3 ∨ kd = 4) : ∀ e : Ex, treeE wide e = true → 0 ≤ topE kd e ∧ topE kd e ≤ 4 :=
  Ex.ind fun k n nn ks ih hT => by
    rw [treeE_mk, Bool.and_eq_true, List.all_eq_true] at hT
    rw [topE_mk]
    split
    · next e =>
      subst e
      rcases hk with rfl | rfl
      · have := leaf3 hT.1; omega
      · have := leaf4 hT.1; omega
    · exact ⟨topEs_ge.1, topEs_le (by omega) fun e he => (ih e he (hT.2 e he)).2⟩
theorem topEs_in {kd : Int} (hk : kd = 3 ∨ kd = 4) {ks : List Ex} (h : ∀ e ∈ ks, treeE wide e = true) {i : Nat} : 0 ≤ topEs kd (ks.take i) 0 ∧ topEs kd (ks.take i) 0 ≤ 4 :=
  ⟨topEs_ge.1, topEs_le (by omega) fun e he => (top_in hk e (h e (List.mem_of_mem_take he))).2⟩
mutual
def subE (ts qs : List Ex) : Ex → Ex
  | .mk k n _ ks => if k = 3 then cpE (ts.getD n.toNat default) else if k = 4 then cpE (qs.getD n.toNat default) else .mk k n (nnL ks) (subEs ts qs ks)
def subEs (ts qs : List Ex) : List Ex → List Ex
  | [] => []
  | e :: es => subE ts qs e :: subEs ts qs es
end
theorem subEs_eq {ts qs : List Ex} : ∀ ks : List Ex, subEs ts qs ks = ks.map (subE ts qs)
  | [] => rfl
  | e :: es => by simp only [subEs, List.map_cons, subEs_eq es]
theorem subE_mk {ts qs : List Ex} {k n : Int} {nn : Option Bool} {ks : List Ex} : subE ts qs (.mk k n nn ks) = if k = 3 then cpE (ts.getD n.toNat default) else if k = 4 then cpE (qs.getD n.toNat default) else .mk k n (nnL ks) (ks.map (subE ts qs)) := by rw [subE]; simp only [subEs_eq]
def noE : Ex := .mk 0 0 (some true) []
mutual
def putE (ts qs : List Ex) : Ex → Int → Ex × Int
  | .mk k n _ ks => fun l =>
    if l - 1 < 0 then (noE, l - 1) else if k = 3 then (if (ts.length : Int) ≤ n then (.mk 2 0 (some true) [], l - 1) else (cpE (ts.getD n.toNat default), l - 1 - ((sizeE (ts.getD n.toNat default) : Int) - 1)))
    else if k = 4 then (if (qs.length : Int) ≤ n then (.mk 2 0 (some true) [], l - 1) else (cpE (qs.getD n.toNat default), l - 1 - ((sizeE (qs.getD n.toNat default) : Int) - 1)))
    else (.mk k n (nnL ks) (putEs ts qs ks (l - 1)).1, (putEs ts qs ks (l - 1)).2)
def putEs (ts qs : List Ex) : List Ex → Int → List Ex × Int
  | [] => fun l => ([], l)
  | e :: es => fun l => ((putE ts qs e l).1 :: (putEs ts qs es (putE ts qs e l).2).1, (putEs ts qs es (putE ts qs e l).2).2)
end
theorem putE_mk {ts qs : List Ex} {k n : Int} {nn : Option Bool} {ks : List Ex} {l : Int} : putE ts qs (.mk k n nn ks) l =
    if l - 1 < 0 then (noE, l - 1) else if k = 3 then (if (ts.length : Int) ≤ n then (.mk 2 0 (some true) [], l - 1) else (cpE (ts.getD n.toNat default), l - 1 - ((sizeE (ts.getD n.toNat default) : Int) - 1)))
    else if k = 4 then (if (qs.length : Int) ≤ n then (.mk 2 0 (some true) [], l - 1) else (cpE (qs.getD n.toNat default), l - 1 - ((sizeE (qs.getD n.toNat default) : Int) - 1)))
    else (.mk k n (nnL ks) (putEs ts qs ks (l - 1)).1, (putEs ts qs ks (l - 1)).2) := by rw [putE]
section
variable {ts qs : List Ex}
theorem putEs_append : ∀ {a b : List Ex} {l : Int}, putEs ts qs (a ++ b) l = ((putEs ts qs a l).1 ++ (putEs ts qs b (putEs ts qs a l).2).1, (putEs ts qs b (putEs ts qs a l).2).2)
  | [], _, _ => rfl
  | e :: a, b, l => by simp only [List.cons_append, putEs, putEs_append (a := a)]
theorem putEs_succ {l : List Ex} {i : Nat} (h : i < l.length) {x : Int} : putEs ts qs (l.take (i + 1)) x = ((putEs ts qs (l.take i) x).1 ++ [(putE ts qs l[i] (putEs ts qs (l.take i) x).2).1], (putE ts qs l[i] (putEs ts qs (l.take i) x).2).2) := by
  rw [List.take_succ_eq_append_getElem h, putEs_append]; rfl
theorem putEs_len : ∀ {a : List Ex} {l : Int}, (putEs ts qs a l).1.length = a.length
  | [], _ => rfl
  | e :: a, l => by simp only [putEs, List.length_cons, putEs_len (a := a)]
theorem sizeEs_append : ∀ {a b : List Ex}, sizeEs (a ++ b) = sizeEs a + sizeEs b
  | [], b => by simp [sizeEs]
  | x :: a, b => by simp only [List.cons_append, sizeEs, sizeEs_append (a := a)]; omega
theorem sizeEs_succ {l : List Ex} {i : Nat} (h : i < l.length) : sizeEs (l.take (i + 1)) = sizeEs (l.take i) + sizeE l[i] := by
  rw [List.take_succ_eq_append_getElem h, sizeEs_append]; simp [sizeEs]
theorem sizeEs_take {l : List Ex} {i : Nat} : sizeEs (l.take i) ≤ sizeEs l := by
  conv => rhs; rw [← List.take_append_drop i l, sizeEs_append]
  omega
def small (ts : List Ex) : Prop := ∀ t ∈ ts, fitE t ∧ sizeE t ≤ 200
theorem small_get {ts : List Ex} (h : small ts) {n : Nat} (hn : n < ts.length) : fitE (ts.getD n default) ∧ sizeE (ts.getD n default) ≤ 200 := by
  simp only [List.getD, List.getElem?_eq_getElem hn, Option.getD_some]
  exact h _ (List.getElem_mem hn)
theorem putEs_in {ks : List Ex} (ih : ∀ e ∈ ks, ∀ l : Int, (putE ts qs e l).2 ≤ l ∧ l - 1000 * sizeE e ≤ (putE ts qs e l).2) : ∀ {l : Int}, (putEs ts qs ks l).2 ≤ l ∧ l - 1000 * sizeEs ks ≤ (putEs ts qs ks l).2 := by
  induction ks with
  | nil => intro l; simp [putEs, sizeEs]
  | cons e ks ihk =>
    intro l
    have h1 := ih e (by simp) l
    have h2 := @ihk (fun e he => ih e (by simp [he])) (putE ts qs e l).2
    simp only [putEs, sizeEs]
    omega
theorem putE_in (h1 : small ts) (h2 : small qs) : ∀ (e : Ex), treeE wide e = true → ∀ l : Int, (putE ts qs e l).2 ≤ l ∧ l - 1000 * sizeE e ≤ (putE ts qs e l).2 :=
  Ex.ind fun k n nn ks ih hT l => by
    rw [treeE_mk, Bool.and_eq_true, List.all_eq_true] at hT
    rw [putE_mk, sizeE_mk]
    split
    · simp only; omega
    split
    · next e =>
      subst e
      have := leaf3 hT.1
      split
      · simp only; omega
      · have := small_get h1 (n := n.toNat) (by omega)
        have := sizeE_pos (ts.getD n.toNat default)
        simp only; omega
    split
    · next e =>
      subst e
      have := leaf4 hT.1
      split
      · simp only; omega
      · have := small_get h2 (n := n.toNat) (by omega)
        have := sizeE_pos (qs.getD n.toNat default)
        simp only; omega
    · have := putEs_in (l := l - 1) fun e he => ih e he (hT.2 e he)
      simp only
      omega
theorem len_sizeEs : ∀ {ks : List Ex}, ks.length ≤ sizeEs ks
  | [] => by simp
  | e :: ks => by
    have := @len_sizeEs ks
    have := sizeE_pos e
    simp only [List.length_cons, sizeEs]
    omega
theorem sizeE_cpE : ∀ e : Ex, sizeE (cpE e) = sizeE e :=
  Ex.ind fun k n nn ks ih => by
    rw [cpE_mk, sizeE_mk, sizeE_mk]
    congr 1
    induction ks with
    | nil => rfl
    | cons e ks ihk => simp only [List.map_cons, sizeEs, ih e (by simp), ihk fun x hx => ih x (by simp [hx])]
theorem putEs_sub {ks : List Ex} (ih : ∀ e ∈ ks, ∀ l : Int, ((sizeE (subE ts qs e) : Int) ≤ l → putE ts qs e l = (subE ts qs e, l - sizeE (subE ts qs e))) ∧ (l < sizeE (subE ts qs e) → (putE ts qs e l).2 < 0)) : ∀ {l : Int}, ((sizeEs (ks.map (subE ts qs)) : Int) ≤ l → putEs ts qs ks l = (ks.map (subE ts qs), l - sizeEs (ks.map (subE ts qs)))) ∧ (l < sizeEs (ks.map (subE ts qs)) → (putEs ts qs ks l).2 < 0) := by
  induction ks with
  | nil =>
    intro l
    simp [putEs, sizeEs]
  | cons e ks ihk =>
    intro l
    have i1 := ih e (by simp) l
    have i2 := @ihk fun e he => ih e (by simp [he])
    simp only [List.map_cons, sizeEs, putEs]
    refine ⟨fun h => ?_, fun h => ?_⟩
    · have h1 := i1.1 (by omega)
      rw [h1]
      have h2 := (@i2 (l - sizeE (subE ts qs e))).1 (by omega)
      simp only [h2]
      congr 1
      push_cast
      omega
    · by_cases hc : (sizeE (subE ts qs e) : Int) ≤ l
      · rw [i1.1 hc]
        exact (@i2 (l - sizeE (subE ts qs e))).2 (by push_cast at h ⊢; omega)
      · have := i1.2 (by omega)
        by_cases hk : (putE ts qs e l).2 < sizeEs (ks.map (subE ts qs))
        · exact i2.2 hk
        · omega
theorem putE_sub : ∀ (e : Ex), treeE wide e = true → topE 3 e ≤ ts.length → topE 4 e ≤ qs.length → ∀ l : Int, ((sizeE (subE ts qs e) : Int) ≤ l → putE ts qs e l = (subE ts qs e, l - sizeE (subE ts qs e))) ∧ (l < sizeE (subE ts qs e) → (putE ts qs e l).2 < 0) :=
  Ex.ind fun k n nn ks ih hT h3 h4 l => by
    rw [treeE_mk, Bool.and_eq_true, List.all_eq_true] at hT
    rw [topE_mk] at h3 h4
    rw [putE_mk, subE_mk]
    by_cases e3 : k = 3
    · subst e3
      have := leaf3 hT.1
      simp only [if_true] at h3
      have hn : ¬ ((ts.length : Int) ≤ n) := by omega
      have hp := sizeE_pos (ts.getD n.toNat default)
      simp only [if_true, if_neg hn, sizeE_cpE]
      refine ⟨fun h => ?_, fun h => ?_⟩
      · rw [if_neg (by omega)]
        congr 1
        omega
      · split
        · simp only; omega
        · simp only; omega
    by_cases e4 : k = 4
    · subst e4
      have := leaf4 hT.1
      simp only [if_true] at h4
      have hn : ¬ ((qs.length : Int) ≤ n) := by omega
      have hp := sizeE_pos (qs.getD n.toNat default)
      simp only [if_neg e3, if_true, if_neg hn, sizeE_cpE]
      refine ⟨fun h => ?_, fun h => ?_⟩
      · rw [if_neg (by omega)]
        congr 1
        omega
      · split
        · simp only; omega
        · simp only; omega
    · rw [if_neg e3] at h3
      rw [if_neg e4] at h4
      have hk := fun x => putEs_sub (ks := ks) (l := x) fun e he => ih e he (hT.2 e he) (Int.le_trans (topEs_ge.2 e he) h3) (Int.le_trans (topEs_ge.2 e he) h4)
      simp only [if_neg e3, if_neg e4, sizeE_mk]
      refine ⟨fun h => ?_, fun h => ?_⟩
      · rw [if_neg (by omega), (hk (l - 1)).1 (by omega)]
        simp only
        congr 1
        omega
      · split
        · simp only; omega
        · simp only
          exact (hk (l - 1)).2 (by push_cast at h; omega)
end

def k_patternSig : RC := (.seq (.reg false [⟨none, .zer 0 2 (.ag [(.sc (.int .i64 0)), (.sc (.int .i64 0))])⟩]) ((.seq (.reg false [⟨none, .bld 1 (.ag [(.sc (.int .i64 0)), (.sc (.int .i64 0))]) [(0, 1, (.c (.sc (.int .i64 3)))), (1, 1, (.c (.sc (.int .i64 4))))]⟩, ⟨none, .st 2 (.t 0) (.t 1)⟩]) (.ret))))
def K_patternSig (P : Program) (fno : Nat) : Prop := ∀ (_u : Unit), AF P fno [] (.own (eG wide))
theorem a_patternSig {P : Program} (hm : P.follows .mixedOrders = true) {g : Nat} (hr : resF P g = some (2, k_patternSig, [.c 0 2 true])) : K_patternSig P g := by
  intro _u
  refine af_of_res hr hm rfl fun hb => ?_
  simp +contextual -implicitDefEqProofs only [k_patternSig, wide, isAg_ag, atA0, List.map_cons, List.map_nil, List.length_cons, List.length_nil, D.cells, D.size, D.sizeL, modeOf, noPtrs, eI, eG, sub_ag, beq_self_eq_true, bne, Bool.not_false, Bool.and_true, go_sem, ↓reduceIte, Nat.reduceEqDiff, Nat.reduceAdd, Nat.reduceLeDiff, Nat.reduceBEq, Nat.reduceLT, Nat.reduceSub, Bool.false_eq_true, List.cons_append, List.nil_append]
  try exact D.Le.refl _

def k_l04Wide : RC := (.seq (.reg false [⟨none, .zer 0 2 (.ag [(.sc (.int .i64 0)), (.sc (.int .i64 0))])⟩]) ((.seq (.reg false [⟨none, .bld 1 (.ag [(.sc (.int .i64 0)), (.sc (.int .i64 0))]) [(0, 1, (.c (.sc (.int .i64 3)))), (1, 1, (.c (.sc (.int .i64 4))))]⟩, ⟨none, .st 2 (.t 0) (.t 1)⟩]) (.ret))))
def K_l04Wide (P : Program) (fno : Nat) : Prop := ∀ (_u : Unit), AF P fno [] (.own (eG wide))
theorem a_l04Wide {P : Program} (hm : P.follows .mixedOrders = true) {g : Nat} (hr : resF P g = some (2, k_l04Wide, [.c 0 2 true])) : K_l04Wide P g := by
  intro _u
  refine af_of_res hr hm rfl fun hb => ?_
  simp +contextual -implicitDefEqProofs only [k_l04Wide, wide, isAg_ag, atA0, List.map_cons, List.map_nil, List.length_cons, List.length_nil, D.cells, D.size, D.sizeL, modeOf, noPtrs, eI, eG, sub_ag, beq_self_eq_true, bne, Bool.not_false, Bool.and_true, go_sem, ↓reduceIte, Nat.reduceEqDiff, Nat.reduceAdd, Nat.reduceLeDiff, Nat.reduceBEq, Nat.reduceLT, Nat.reduceSub, Bool.false_eq_true, List.cons_append, List.nil_append]
  try exact D.Le.refl _

def k_areConditions (f1 : Nat) : RC := (.seq (.reg false [⟨none, .mv 2 (.c (.sc (.bool false)))⟩]) ((.seq ((.seq (.reg false [⟨none, .mv 5 (.t 0)⟩, ⟨none, .len 6 (.t 5)⟩, ⟨none, .mv 7 (.c (.sc (.int .i64 0)))⟩]) (.blk 0 (.loop ((.seq (.reg false [⟨none, .bin 8 .lss (.t 7) (.t 6)⟩]) ((.seq (.cond (.t 8) (.skip) (.exit 0)) ((.seq (.blk 1 ((.seq (.reg false [⟨none, .ia 9 3 (.t 5) (.t 7)⟩, ⟨none, .ld 10 true 3 (.t 9)⟩, ⟨none, .zer 4 3 (.ag [(.sc (.int .i64 0)), (.sc (.int .i64 0)), (.ls (some true) 3 [])])⟩, ⟨none, .st 3 (.t 4) (.t 10)⟩]) ((.seq (.reg false [⟨none, .ld 11 true 3 (.t 4)⟩, ⟨none, .call (some 12) f1 [(.t 11)]⟩, ⟨none, .un 13 .not (.t 12)⟩]) (.cond (.t 13) ((.seq (.reg false [⟨none, .mv 2 (.c (.sc (.bool false)))⟩]) (.ret))) (.skip))))))) (.reg false [⟨none, .bin 14 .add (.t 7) (.c (.sc (.int .i64 1)))⟩, ⟨none, .mv 7 (.t 14)⟩]))))))))))) ((.seq (.reg false [⟨none, .mv 2 (.c (.sc (.bool true)))⟩]) (.ret))))))
def K_areConditions (P : Program) (fno : Nat) : Prop := ∀ (l : SL Ex), AF P fno [eS 3 eE l] (.own (eB (l.2.all condE)))
theorem a_areConditions {P : Program} (hm : P.follows .mixedOrders = true) {g f1 : Nat} (hr : resF P g = some (15, k_areConditions f1, [.t 2])) (hc1 : K_isCondition P f1) : K_areConditions P g := by
  intro l
  refine af_of_res hr hm rfl fun hb => ?_
  have hl := bd_ls hb.1
  simp only [List.length_map] at hl
  simp +contextual -implicitDefEqProofs only [k_areConditions, eS, List.length_map, go_sem, eB, ↓reduceIte, Nat.reduceEqDiff]
  refine vc_on (α := Nat) [2, 4, 7, 8, 9, 10, 11, 12, 13, 14] (fun i => [(7, .im none (.sc (.int .i64 i)))]) (fun i => i ≤ l.2.length ∧ (l.2.take i).all condE = true) (fun i => l.2.length - i) 0 (by simp only [subEnv, go_sem, ↓reduceIte]; simp) ⟨Nat.zero_le _, rfl⟩ ?_
  rintro i ⟨j1, j2⟩
  by_cases hi : i < l.2.length
  · have e1 := at_map (f := eE) hi
    cases n1 : (eE l.2[i]).noPtr
    all_goals
      simp +contextual -implicitDefEqProofs only [e1, hi, encE.sub, eE_size, eE_isAg, Int.ofNat_lt, List.length_map, Int.natCast_nonneg, Nat.zero_lt_one, n1, Bool.and_true, go_sem, ↓reduceIte, Nat.reduceEqDiff, Nat.reduceAdd, Nat.reduceLeDiff, Bool.false_eq_true, List.cons_append, List.nil_append]
      refine callQ_self ?_ (hc1 l.2[i]) ?_
      · exact rfl
      cases hx : condE l.2[i]
      · simp +contextual -implicitDefEqProofs only [Bool.not_false, go_sem, eB, ↓reduceIte]
        exact D.Le.sc_eq (by rw [all_fail hi hx])
      · simp +contextual -implicitDefEqProofs only [Bool.not_true, go_sem, eB, ↓reduceIte, Nat.reduceEqDiff]
        rw [wrap_i64 (by omega) (by omega)]
        exact ⟨i + 1, ⟨by omega, all_take_succ hi j2 hx⟩, by omega, Ent.delEnv 4 (by simp only [go_sem, ↓reduceIte, killU]) (by simp only [subEnv, go_sem, ↓reduceIte, Nat.reduceEqDiff, killE, AV.refs]; simp)⟩
  · simp +contextual -implicitDefEqProofs only [hi, Int.ofNat_lt, go_sem, ↓reduceIte, Nat.reduceEqDiff, Bool.false_eq_true, List.cons_append, List.nil_append]
    rw [all_of_take hi j2]
    exact D.Le.refl _

def k_l04Valid (f1 : Nat) : RC := (.seq (.reg false [⟨none, .box 2 2 (.t 0)⟩, ⟨none, .mv 4 (.c (.sc (.bool false)))⟩]) ((.seq ((.seq (.reg false [⟨none, .mv 5 (.c (.sc (.int .i64 0)))⟩]) (.blk 0 (.loop ((.seq ((.seq (.reg false [⟨none, .mv 6 (.t 5)⟩, ⟨none, .mv 7 (.t 1)⟩, ⟨none, .len 8 (.t 7)⟩, ⟨none, .bin 9 .lss (.t 6) (.t 8)⟩]) (.cond (.t 9) (.skip) (.exit 0)))) ((.seq (.blk 1 ((.seq (.reg true [⟨none, .ld 12 true 2 (.t 2)⟩, ⟨none, .mv 13 (.t 1)⟩, ⟨none, .mv 14 (.t 5)⟩, ⟨none, .ia 15 3 (.t 13) (.t 14)⟩, ⟨none, .call (some 16) f1 [(.t 12), (.t 15)]⟩, ⟨none, .un 17 .not (.t 16)⟩]) (.cond (.t 17) ((.seq (.reg false [⟨none, .mv 4 (.c (.sc (.bool false)))⟩]) (.ret))) (.skip))))) (.reg false [⟨none, .mv 10 (.t 5)⟩, ⟨none, .bin 11 .add (.t 10) (.c (.sc (.int .i64 1)))⟩, ⟨none, .mv 5 (.t 11)⟩]))))))))) ((.seq (.reg false [⟨none, .mv 4 (.c (.sc (.bool true)))⟩]) (.ret))))))
def K_l04Valid (P : Program) (fno : Nat) : Prop := ∀ (g : Int × Int) (l : SL Ex), AF P fno [eG g, eS 3 eE l] (.own (eB (l.2.all fun e => okG g && okE g e)))
theorem a_l04Valid {P : Program} (hm : P.follows .mixedOrders = true) {g f1 : Nat} (hr : resF P g = some (18, k_l04Valid f1, [.t 4])) (hc1 : K_l01Ok P f1) : K_l04Valid P g := by
  intro g l
  refine af_of_res hr hm rfl fun hb => ?_
  have hl := bd_ls hb.2.1
  simp only [List.length_map] at hl
  simp +contextual -implicitDefEqProofs only [k_l04Valid, eS, eG, go_sem, eI, eB, ↓reduceIte, Nat.reduceAdd, Nat.reduceLT, List.cons_append, List.nil_append]
  refine vc_on (α := Nat) [4, 5, 6, 7, 8, 9, 10, 11, 12, 13, 14, 15, 16, 17] (fun i => [(5, .im none (.sc (.int .i64 i)))]) (fun i => i ≤ l.2.length ∧ (l.2.take i).all (fun e => okG g && okE g e) = true) (fun i => l.2.length - i) 0 (by simp only [subEnv, go_sem, ↓reduceIte]; simp) ⟨Nat.zero_le _, rfl⟩ ?_
  rintro i ⟨j1, j2⟩
  by_cases hi : i < l.2.length
  · have e1 := at_map (f := eE) hi
    simp +contextual -implicitDefEqProofs only [e1, hi, Int.ofNat_lt, List.length_map, Int.natCast_nonneg, Nat.zero_lt_one, go_sem, ↓reduceIte, Nat.reduceEqDiff, Nat.reduceLeDiff, Bool.false_eq_true, List.cons_append, List.nil_append]
    refine callQ_self ?_ (hc1 g l.2[i]) ?_
    · exact rfl
    cases hx : (fun e => okG g && okE g e) l.2[i]
    · try simp only [] at hx
      simp +contextual -implicitDefEqProofs only [hx, Bool.not_false, go_sem, eB, ↓reduceIte]
      exact D.Le.sc_eq (by rw [all_fail hi (p := fun e => okG g && okE g e) hx])
    · try simp only [] at hx
      simp +contextual -implicitDefEqProofs only [hx, Bool.not_true, go_sem, eB, ↓reduceIte, Nat.reduceEqDiff]
      rw [wrap_i64 (by omega) (by omega)]
      exact ⟨i + 1, ⟨by omega, all_take_succ hi j2 hx⟩, by omega, Ent.env (by simp only [subEnv, go_sem, ↓reduceIte, Nat.reduceEqDiff]; simp)⟩
  · simp +contextual -implicitDefEqProofs only [hi, Int.ofNat_lt, List.length_map, go_sem, ↓reduceIte, Nat.reduceEqDiff, Bool.false_eq_true, List.cons_append, List.nil_append]
    rw [all_of_take hi j2]
    exact D.Le.refl _

def k_l04Conditions (f1 : Nat) : RC := (.seq (.reg false [⟨none, .mv 2 (.c (.sc (.bool false)))⟩]) ((.seq ((.seq (.reg false [⟨none, .mv 3 (.c (.sc (.int .i64 0)))⟩]) (.blk 0 (.loop ((.seq ((.seq (.reg false [⟨none, .mv 4 (.t 3)⟩, ⟨none, .mv 5 (.t 0)⟩, ⟨none, .len 6 (.t 5)⟩, ⟨none, .bin 7 .lss (.t 4) (.t 6)⟩]) (.cond (.t 7) (.skip) (.exit 0)))) ((.seq (.blk 1 ((.seq (.reg false [⟨none, .mv 10 (.t 0)⟩, ⟨none, .mv 11 (.t 3)⟩, ⟨none, .ia 12 3 (.t 10) (.t 11)⟩, ⟨none, .call (some 13) f1 [(.t 12)]⟩, ⟨none, .un 14 .not (.t 13)⟩]) (.cond (.t 14) ((.seq (.reg false [⟨none, .mv 2 (.c (.sc (.bool false)))⟩]) (.ret))) (.skip))))) (.reg false [⟨none, .mv 8 (.t 3)⟩, ⟨none, .bin 9 .add (.t 8) (.c (.sc (.int .i64 1)))⟩, ⟨none, .mv 3 (.t 9)⟩]))))))))) ((.seq (.reg false [⟨none, .mv 2 (.c (.sc (.bool true)))⟩]) (.ret))))))
def K_l04Conditions (P : Program) (fno : Nat) : Prop := ∀ (l : SL Ex), AF P fno [eS 3 eE l] (.own (eB (l.2.all condE)))
theorem a_l04Conditions {P : Program} (hm : P.follows .mixedOrders = true) {g f1 : Nat} (hr : resF P g = some (15, k_l04Conditions f1, [.t 2])) (hc1 : K_l01Condition P f1) : K_l04Conditions P g := by
  intro l
  refine af_of_res hr hm rfl fun hb => ?_
  have hl := bd_ls hb.1
  simp only [List.length_map] at hl
  simp +contextual -implicitDefEqProofs only [k_l04Conditions, eS, go_sem, eB, ↓reduceIte]
  refine vc_on (α := Nat) [2, 3, 4, 5, 6, 7, 8, 9, 10, 11, 12, 13, 14] (fun i => [(3, .im none (.sc (.int .i64 i)))]) (fun i => i ≤ l.2.length ∧ (l.2.take i).all (condE) = true) (fun i => l.2.length - i) 0 (by simp only [subEnv, go_sem, ↓reduceIte]; simp) ⟨Nat.zero_le _, rfl⟩ ?_
  rintro i ⟨j1, j2⟩
  by_cases hi : i < l.2.length
  · have e1 := at_map (f := eE) hi
    simp +contextual -implicitDefEqProofs only [e1, hi, Int.ofNat_lt, List.length_map, Int.natCast_nonneg, Nat.zero_lt_one, go_sem, ↓reduceIte, Nat.reduceEqDiff, Bool.false_eq_true, List.cons_append, List.nil_append]
    refine callQ_self ?_ (hc1 l.2[i]) ?_
    · exact rfl
    cases hx : (condE) l.2[i]
    · try simp only [] at hx
      simp +contextual -implicitDefEqProofs only [Bool.not_false, go_sem, eB, ↓reduceIte]
      exact D.Le.sc_eq (by rw [all_fail hi (p := condE) hx])
    · try simp only [] at hx
      simp +contextual -implicitDefEqProofs only [Bool.not_true, go_sem, eB, ↓reduceIte, Nat.reduceEqDiff]
      rw [wrap_i64 (by omega) (by omega)]
      exact ⟨i + 1, ⟨by omega, all_take_succ hi j2 hx⟩, by omega, Ent.env (by simp only [subEnv, go_sem, ↓reduceIte, Nat.reduceEqDiff]; simp)⟩
  · simp +contextual -implicitDefEqProofs only [hi, Int.ofNat_lt, List.length_map, go_sem, ↓reduceIte, Nat.reduceEqDiff, Bool.false_eq_true, List.cons_append, List.nil_append]
    rw [all_of_take hi j2]
    exact D.Le.refl _

def k_l01Size (g : Nat) : RC := (.seq (.reg false [⟨none, .mv 2 (.c (.sc (.int .i64 0)))⟩]) ((.seq (.reg false [⟨none, .mv 3 (.c (.sc (.int .i64 1)))⟩]) ((.seq ((.seq (.reg false [⟨none, .mv 4 (.c (.sc (.int .i64 0)))⟩]) (.blk 0 (.loop ((.seq ((.seq (.reg false [⟨none, .mv 5 (.t 4)⟩, ⟨none, .mv 6 (.t 0)⟩, ⟨none, .nck 7 (.t 6)⟩, ⟨none, .fa 8 2 (.t 7)⟩, ⟨none, .ld 9 false 1 (.t 8)⟩, ⟨none, .len 10 (.t 9)⟩, ⟨none, .bin 11 .lss (.t 5) (.t 10)⟩]) (.cond (.t 11) (.skip) (.exit 0)))) ((.seq (.blk 1 (.reg false [⟨none, .mv 14 (.t 3)⟩, ⟨none, .mv 15 (.t 0)⟩, ⟨none, .nck 16 (.t 15)⟩, ⟨none, .fa 17 2 (.t 16)⟩, ⟨none, .ld 18 false 1 (.t 17)⟩, ⟨none, .mv 19 (.t 4)⟩, ⟨none, .ia 20 3 (.t 18) (.t 19)⟩, ⟨none, .call (some 21) g [(.t 20)]⟩, ⟨none, .bin 22 .add (.t 14) (.t 21)⟩, ⟨none, .mv 3 (.t 22)⟩])) (.reg false [⟨none, .mv 12 (.t 4)⟩, ⟨none, .bin 13 .add (.t 12) (.c (.sc (.int .i64 1)))⟩, ⟨none, .mv 4 (.t 13)⟩]))))))))) ((.seq (.reg false [⟨none, .mv 23 (.t 3)⟩, ⟨none, .mv 2 (.t 23)⟩]) (.ret))))))))
def K_l01Size (P : Program) (fno : Nat) : Prop := ∀ (e : Ex) (hz : sizeE e ≤ 1000000000), AF P fno [.pt (eE e) 0] (.own (eI (sizeE e)))
theorem a_l01Size {P : Program} (hm : P.follows .mixedOrders = true) {g : Nat} (hr : resF P g = some (24, k_l01Size g, [.t 2])) : K_l01Size P g := by
  intro e hz
  refine Ex.ind (p := fun e => sizeE e ≤ 1000000000 → AF P g [.pt (eE e) 0] (.own (eI (sizeE e)))) (fun k n nn ks ih hz => ?_) e hz
  rw [sizeE_mk] at hz
  rw [eE_mk, sizeE_mk]
  refine af_of_res hr hm rfl fun hb => ?_
  have hl : ks.length ≤ 9223372036854775807 := by
    have := hb.1
    simp only [D.bd, D.bdL, List.length_map, maxEl] at this
    exact this.2.2.1.1
  simp +contextual -implicitDefEqProofs only [k_l01Size, go_sem, eI, ↓reduceIte]
  refine vc_on (α := Nat) [3, 4, 5, 6, 7, 8, 9, 10, 11, 12, 13, 14, 15, 16, 17, 18, 19, 20, 21, 22] (fun i => [(4, .im none (.sc (.int .i64 i))), (3, .im none (.sc (.int .i64 (1 + (sizeEs (ks.take i) : Int)))))]) (fun i => i ≤ ks.length) (fun i => ks.length - i) 0 (by simp only [subEnv, go_sem, ↓reduceIte, Nat.reduceEqDiff, List.take_zero, sizeEs]; simp) (Nat.zero_le _) ?_
  intro i j1
  by_cases hi : i < ks.length
  · have e1 := at_map (f := eE) hi
    have hm1 := sizeE_mem (List.getElem_mem hi)
    have hs := sizeEs_succ hi
    have ht := sizeEs_take (l := ks) (i := i + 1)
    simp +contextual -implicitDefEqProofs only [e1, hi, Int.ofNat_lt, List.length_map, Int.natCast_nonneg, Nat.zero_lt_one, go_sem, ↓reduceIte, Nat.reduceEqDiff, Nat.reduceAdd, Nat.reduceLeDiff, Nat.reduceLT, Bool.false_eq_true, List.cons_append, List.nil_append]
    refine callQ_self ?_ (ih ks[i] (List.getElem_mem _) (by omega)) ?_
    · exact rfl
    simp +contextual -implicitDefEqProofs only [go_sem, eI, ↓reduceIte, Nat.reduceEqDiff]
    rw [wrap_i64 (by omega) (by omega), wrap_i64 (by omega) (by omega)]
    have hk : (1 + (sizeEs (ks.take i) : Int) + sizeE ks[i]) = 1 + sizeEs (ks.take (i + 1)) := by rw [hs]; push_cast; omega
    rw [hk]
    exact ⟨i + 1, by omega, by omega, Ent.env (by simp only [subEnv, go_sem, ↓reduceIte, Nat.reduceEqDiff]; simp)⟩
  · simp +contextual -implicitDefEqProofs only [hi, Int.ofNat_lt, List.length_map, go_sem, ↓reduceIte, Nat.reduceEqDiff, Nat.reduceAdd, Nat.reduceLeDiff, Nat.reduceLT, Bool.false_eq_true, List.cons_append, List.nil_append]
    rw [List.take_of_length_le (by omega)]
    exact D.Le.sc_eq (by push_cast; rfl)
theorem max_mx {a b : Int} : (if b > a then b else a) = mx a b := by
  unfold mx
  split <;> split <;> omega

def k_full (g : Nat) : RC := (.seq (.reg false [⟨none, .box 1 3 (.t 0)⟩, ⟨none, .mv 2 (.c (.sc (.int .i64 0)))⟩, ⟨none, .mv 3 (.c (.sc (.int .i64 0)))⟩]) ((.seq ((.seq (.reg false [⟨none, .fa 10 0 (.t 1)⟩, ⟨none, .ld 11 false 1 (.t 10)⟩]) (.blk 0 ((.seq (.reg false [⟨none, .bin 13 .eql (.t 11) (.c (.sc (.int .i64 3)))⟩, ⟨none, .mv 12 (.t 13)⟩]) (.cond (.t 12) ((.seq (.reg false [⟨none, .fa 14 1 (.t 1)⟩, ⟨none, .ld 15 false 1 (.t 14)⟩, ⟨none, .bin 16 .add (.t 15) (.c (.sc (.int .i64 1)))⟩, ⟨none, .mv 2 (.t 16)⟩, ⟨none, .mv 3 (.c (.sc (.int .i64 0)))⟩]) (.ret))) ((.seq (.reg false [⟨none, .bin 18 .eql (.t 11) (.c (.sc (.int .i64 4)))⟩, ⟨none, .mv 17 (.t 18)⟩]) (.cond (.t 17) ((.seq (.reg true [⟨none, .fa 19 1 (.t 1)⟩, ⟨none, .ld 20 false 1 (.t 19)⟩, ⟨none, .bin 21 .add (.t 20) (.c (.sc (.int .i64 1)))⟩, ⟨none, .mv 2 (.c (.sc (.int .i64 0)))⟩, ⟨none, .mv 3 (.t 21)⟩]) (.ret))) (.skip)))))))))) ((.seq (.reg false [⟨none, .mv 4 (.c (.sc (.int .i64 0)))⟩, ⟨none, .mv 5 (.c (.sc (.int .i64 0)))⟩]) ((.seq ((.seq (.reg false [⟨none, .fa 22 2 (.t 1)⟩, ⟨none, .ld 23 false 1 (.t 22)⟩, ⟨none, .len 24 (.t 23)⟩, ⟨none, .mv 25 (.c (.sc (.int .i64 0)))⟩]) (.blk 1 (.loop ((.seq (.reg false [⟨none, .bin 26 .lss (.t 25) (.t 24)⟩]) ((.seq (.cond (.t 26) (.skip) (.exit 1)) ((.seq (.blk 2 ((.seq (.reg false [⟨none, .ia 27 3 (.t 23) (.t 25)⟩, ⟨none, .ld 28 true 3 (.t 27)⟩, ⟨none, .zer 7 3 (.ag [(.sc (.int .i64 0)), (.sc (.int .i64 0)), (.ls (some true) 3 [])])⟩, ⟨none, .st 3 (.t 7) (.t 28)⟩]) ((.seq (.reg false [⟨none, .ld 30 true 3 (.t 7)⟩, ⟨none, .call (some 31) g [(.t 30)]⟩, ⟨none, .mv 29 (.t 31)⟩, ⟨none, .ext 32 (.t 29) 0⟩, ⟨none, .ext 33 (.t 29) 1⟩, ⟨none, .mv 8 (.t 32)⟩, ⟨none, .mv 9 (.t 33)⟩]) (.reg false [⟨none, .mv 34 (.t 4)⟩, ⟨none, .mv 35 (.t 8)⟩, ⟨none, .mxm 36 true (.t 34) (.t 35)⟩, ⟨none, .mv 37 (.t 5)⟩, ⟨none, .mv 38 (.t 9)⟩, ⟨none, .mxm 39 true (.t 37) (.t 38)⟩, ⟨none, .mv 4 (.t 36)⟩, ⟨none, .mv 5 (.t 39)⟩])))))) (.reg false [⟨none, .bin 40 .add (.t 25) (.c (.sc (.int .i64 1)))⟩, ⟨none, .mv 25 (.t 40)⟩]))))))))))) ((.seq (.reg false [⟨none, .mv 41 (.t 4)⟩, ⟨none, .mv 42 (.t 5)⟩, ⟨none, .mv 2 (.t 41)⟩, ⟨none, .mv 3 (.t 42)⟩]) (.ret))))))))))
def K_full (P : Program) (fno : Nat) : Prop := ∀ (e : Ex) (hT : treeE wide e = true), AF P fno [eE e] (.tup ([.own (eI (topE 3 e)), .own (eI (topE 4 e))]))
theorem a_full {P : Program} (hm : P.follows .mixedOrders = true) {g : Nat} (hr : resF P g = some (43, k_full g, [.t 2, .t 3])) : K_full P g := by
  intro e hT
  refine Ex.ind (p := fun e => treeE wide e = true → AF P g [eE e] (.tup [.own (eI (topE 3 e)), .own (eI (topE 4 e))])) (fun k n nn ks ih hT => ?_) e hT
  rw [treeE_mk, Bool.and_eq_true, List.all_eq_true] at hT
  rw [eE_mk, topE_mk, topE_mk]
  by_cases e3 : k = 3
  · subst e3
    obtain ⟨rfl, h1, h2⟩ := leaf3 hT.1
    rw [if_pos rfl, if_neg (by decide)]
    refine af_of_res hr hm rfl fun hb => ?_
    have hw : IntKind.i64.wrap (n + 1) = n + 1 := wrap_i64 (by omega) (by omega)
    simp +contextual -implicitDefEqProofs only [k_full, topEs, hw, isAg_ag, atA0, List.map_nil, D.size, D.sizeL, eI, sub_ag, beq_self_eq_true, Bool.and_true, go_sem, ↓reduceIte, Nat.reduceEqDiff, Nat.reduceAdd, Nat.reduceLeDiff, Nat.reduceLT, Bool.false_eq_true, List.cons_append, List.nil_append]
  by_cases e4 : k = 4
  · subst e4
    obtain ⟨rfl, h1, h2⟩ := leaf4 hT.1
    rw [if_neg (by decide), if_pos rfl]
    refine af_of_res hr hm rfl fun hb => ?_
    have hw : IntKind.i64.wrap (n + 1) = n + 1 := wrap_i64 (by omega) (by omega)
    simp +contextual -implicitDefEqProofs only [k_full, topEs, hw, isAg_ag, atA0, List.map_nil, D.size, D.sizeL, eI, sub_ag, Int.reduceBEq, beq_self_eq_true, Bool.and_true, go_sem, ↓reduceIte, Nat.reduceEqDiff, Nat.reduceAdd, Nat.reduceLeDiff, Nat.reduceLT, Bool.false_eq_true, List.cons_append, List.nil_append]
  rw [if_neg e3, if_neg e4]
  have e3' : (k == 3) = false := by simp [e3]
  have e4' : (k == 4) = false := by simp [e4]
  refine af_of_res hr hm rfl fun hb => ?_
  have hl : ks.length ≤ 9223372036854775807 := by
    have := hb.1
    simp only [D.bd, D.bdL, List.length_map, maxEl] at this
    exact this.2.2.1.1
  simp +contextual -implicitDefEqProofs only [k_full, e3', e4', isAg_ag, atA0, D.size, D.sizeL, List.length_map, eI, sub_ag, Bool.and_true, go_sem, ↓reduceIte, Nat.reduceEqDiff, Nat.reduceAdd, Nat.reduceLeDiff, Nat.reduceLT, Bool.false_eq_true, List.cons_append, List.nil_append]
  refine vc_on (α := Nat) [4, 5, 7, 8, 9, 25, 26, 27, 28, 29, 30, 31, 32, 33, 34, 35, 36, 37, 38, 39, 40] (fun i => [(25, .im none (.sc (.int .i64 i))), (4, .im none (.sc (.int .i64 (topEs 3 (ks.take i) 0)))), (5, .im none (.sc (.int .i64 (topEs 4 (ks.take i) 0))))]) (fun i => i ≤ ks.length) (fun i => ks.length - i) 0 (by simp only [subEnv, go_sem, ↓reduceIte, Nat.reduceEqDiff, List.take_zero, topEs]; simp) (Nat.zero_le _) ?_
  intro i j1
  have b3 := topEs_in (kd := 3) (.inl rfl) hT.2 (i := i)
  have b4 := topEs_in (kd := 4) (.inr rfl) hT.2 (i := i)
  by_cases hi : i < ks.length
  · have e1 := at_map (f := eE) hi
    have s3 := topEs_succ (kd := 3) hi (x := 0)
    have s4 := topEs_succ (kd := 4) hi (x := 0)
    cases n1 : (eE ks[i]).noPtr
    all_goals
      simp +contextual -implicitDefEqProofs only [n1, e1, hi, encE.sub, eE_size, eE_isAg, Int.ofNat_lt, List.length_map, Int.natCast_nonneg, Nat.zero_lt_one, bne, Bool.not_false, Bool.and_true, go_sem, ↓reduceIte, Nat.reduceEqDiff, Nat.reduceAdd, Nat.reduceLeDiff, Nat.reduceBEq, Bool.false_eq_true, List.cons_append, List.nil_append]
      refine callQ_self ?_ (ih ks[i] (List.getElem_mem _) (hT.2 _ (List.getElem_mem _))) ?_
      · exact rfl
      simp +contextual -implicitDefEqProofs only [List.map_cons, List.map_nil, List.length_cons, List.length_nil, eI, go_sem, ↓reduceIte, Nat.reduceEqDiff, Nat.reduceAdd, Nat.reduceLT, List.nil_append]
      rw [max_mx, max_mx, ← s3, ← s4, wrap_i64 (by omega) (by omega)]
      exact ⟨i + 1, by omega, by omega, Ent.delEnv 7 (by simp only [go_sem, ↓reduceIte, Nat.reduceEqDiff, killU, U.kill]) (by simp only [subEnv, go_sem, ↓reduceIte, Nat.reduceEqDiff, Nat.reduceBEq, killE, AV.refs]; simp)⟩
  · simp +contextual -implicitDefEqProofs only [hi, Int.ofNat_lt, go_sem, ↓reduceIte, Nat.reduceEqDiff, Bool.false_eq_true, List.cons_append, List.nil_append]
    rw [List.take_of_length_le (by omega)]
    exact ⟨D.Le.refl _, D.Le.refl _⟩
def uI (x : Int) : U := .ar true none 1 [.sc (.int .i64 x)]
theorem mx_zero {a : Int} (h : 0 ≤ a) : mx a 0 = a := by unfold mx; split <;> omega
theorem mx_def {a b : Int} : (if a > b then a else b) = mx a b := rfl
theorem topEs_mx {kd : Int} {l : List Ex} {a : Int} (h : 0 ≤ a) : topEs kd l a = mx a (topEs kd l 0) := by
  rw [← mx_topEs, mx_zero h]
theorem topEs_b {kd : Int} (hk : kd = 3 ∨ kd = 4) {ks : List Ex} (h : ∀ e ∈ ks, treeE wide e = true) {i : Nat} {a : Int} (h0 : 0 ≤ a) (h1 : a ≤ 1000) : 0 ≤ topEs kd (ks.take i) a ∧ topEs kd (ks.take i) a ≤ 1000 := by
  have h2 := topEs_ge (kd := kd) (l := ks.take i) (x := a)
  exact ⟨by omega, topEs_le h1 fun e he => by have := (top_in hk e (h e (List.mem_of_mem_take he))).2; omega⟩

def k_l04Top (g f1 : Nat) : RC := (.seq ((.seq (.reg false [⟨none, .mv 7 (.t 0)⟩, ⟨none, .nck 8 (.t 7)⟩, ⟨none, .fa 9 0 (.t 8)⟩, ⟨none, .ld 10 false 1 (.t 9)⟩, ⟨none, .bin 11 .eql (.t 10) (.c (.sc (.int .i64 3)))⟩]) (.cond (.t 11) (.reg true [⟨none, .mv 12 (.t 1)⟩, ⟨none, .mv 13 (.t 1)⟩, ⟨none, .nck 14 (.t 13)⟩, ⟨none, .ld 15 false 1 (.t 14)⟩, ⟨none, .mv 16 (.t 0)⟩, ⟨none, .nck 17 (.t 16)⟩, ⟨none, .fa 18 1 (.t 17)⟩, ⟨none, .ld 19 false 1 (.t 18)⟩, ⟨none, .bin 20 .add (.t 19) (.c (.sc (.int .i64 1)))⟩, ⟨none, .call (some 21) f1 [(.t 15), (.t 20)]⟩, ⟨none, .nck 22 (.t 12)⟩, ⟨none, .st 1 (.t 22) (.t 21)⟩]) (.skip)))) ((.seq ((.seq (.reg false [⟨none, .mv 23 (.t 0)⟩, ⟨none, .nck 24 (.t 23)⟩, ⟨none, .fa 25 0 (.t 24)⟩, ⟨none, .ld 26 false 1 (.t 25)⟩, ⟨none, .bin 27 .eql (.t 26) (.c (.sc (.int .i64 4)))⟩]) (.cond (.t 27) (.reg true [⟨none, .mv 28 (.t 2)⟩, ⟨none, .mv 29 (.t 2)⟩, ⟨none, .nck 30 (.t 29)⟩, ⟨none, .ld 31 false 1 (.t 30)⟩, ⟨none, .mv 32 (.t 0)⟩, ⟨none, .nck 33 (.t 32)⟩, ⟨none, .fa 34 1 (.t 33)⟩, ⟨none, .ld 35 false 1 (.t 34)⟩, ⟨none, .bin 36 .add (.t 35) (.c (.sc (.int .i64 1)))⟩, ⟨none, .call (some 37) f1 [(.t 31), (.t 36)]⟩, ⟨none, .nck 38 (.t 28)⟩, ⟨none, .st 1 (.t 38) (.t 37)⟩]) (.skip)))) ((.seq (.reg false [⟨none, .mv 6 (.c (.sc (.int .i64 0)))⟩]) (.blk 0 (.loop ((.seq ((.seq (.reg false [⟨none, .mv 39 (.t 6)⟩, ⟨none, .mv 40 (.t 0)⟩, ⟨none, .nck 41 (.t 40)⟩, ⟨none, .fa 42 2 (.t 41)⟩, ⟨none, .ld 43 false 1 (.t 42)⟩, ⟨none, .len 44 (.t 43)⟩, ⟨none, .bin 45 .lss (.t 39) (.t 44)⟩]) (.cond (.t 45) (.skip) (.exit 0)))) ((.seq (.blk 1 (.reg false [⟨none, .mv 48 (.t 0)⟩, ⟨none, .nck 49 (.t 48)⟩, ⟨none, .fa 50 2 (.t 49)⟩, ⟨none, .ld 51 false 1 (.t 50)⟩, ⟨none, .mv 52 (.t 6)⟩, ⟨none, .ia 53 3 (.t 51) (.t 52)⟩, ⟨none, .mv 54 (.t 1)⟩, ⟨none, .mv 55 (.t 2)⟩, ⟨none, .wcl (some 56) g [(.t 53), (.t 54), (.t 55)]⟩])) (.reg false [⟨none, .mv 46 (.t 6)⟩, ⟨none, .bin 47 .add (.t 46) (.c (.sc (.int .i64 1)))⟩, ⟨none, .mv 6 (.t 47)⟩]))))))))))))
def K_l04Top (P : Program) (fno : Nat) : Prop := ∀ (e : Ex), treeE wide e = true → ∀ (a b : Int), 0 ≤ a → a ≤ 1000 → 0 ≤ b → b ≤ 1000 → AFW P fno [uI a, uI b] [.im none (.pt (eE e) 0), .pw 3000000000 0 0, .pw 3000000001 0 0] [uI (mx a (topE 3 e)), uI (mx b (topE 4 e))] (.tup [])
theorem a_l04Top {P : Program} (hm : P.follows .mixedOrders = true) {g f1 : Nat} (hr : resF P g = some (57, k_l04Top g f1, [])) (hc1 : K_l00Max P f1) : K_l04Top P g := by
  intro e hT a b a0 a1 b0 b1
  refine Ex.ind (p := fun e => treeE wide e = true → ∀ (a b : Int), 0 ≤ a → a ≤ 1000 → 0 ≤ b → b ≤ 1000 → AFW P g [uI a, uI b] [.im none (.pt (eE e) 0), .pw 3000000000 0 0, .pw 3000000001 0 0] [uI (mx a (topE 3 e)), uI (mx b (topE 4 e))] (.tup [])) (fun k n nn ks ih hT a b a0 a1 b0 b1 => ?_) e hT a b a0 a1 b0 b1
  rw [treeE_mk, Bool.and_eq_true, List.all_eq_true] at hT
  rw [eE_mk]
  by_cases e3 : k = 3
  · subst e3
    obtain ⟨rfl, h1, h2⟩ := leaf3 hT.1
    have hw : IntKind.i64.wrap (n + 1) = n + 1 := wrap_i64 (by omega) (by omega)
    rw [show topE 3 (.mk 3 n nn []) = _ from topE_mk, show topE 4 (.mk 3 n nn []) = _ from topE_mk]
    simp only [Int.reduceEq, if_true, if_false, topEs]
    rw [mx_zero b0]
    refine afw_of_res (wv := .no) hr hm rfl rfl rfl fun hb ha => ?_
    simp +contextual -implicitDefEqProofs only [k_l04Top, uI, hw, isAg_ag, isAg_sc, atA0, List.map_cons, List.map_nil, D.size, D.sizeL, sub_ag, beq_self_eq_true, go_sem, ↓reduceIte, Nat.reduceEqDiff, Nat.reduceAdd, Nat.reduceLeDiff, Nat.reduceLT, Bool.false_eq_true]
    refine callQ_self (ds := [eI a, eI (n + 1)]) (by rfl) (hc1 a (n + 1)) ?_
    simp +contextual -implicitDefEqProofs only [mx_def, isAg_ag, isAg_sc, atA0, List.length_cons, List.length_nil, D.size, D.sizeL, modeOf, noPtrs, eI, sub_ag, Int.reduceBEq, Bool.and_true, go_sem, ↓reduceIte, Nat.reduceEqDiff, Nat.reduceAdd, Nat.reduceLeDiff, Nat.reduceLT, Bool.false_eq_true]
    refine vc_on (α := Unit) [] (fun _ => []) (fun _ => True) (fun _ => 0) () (by simp only [subEnv, go_sem]) trivial ?_
    rintro ⟨⟩ _
    simp +contextual -implicitDefEqProofs only [Int.lt_irrefl, isAg_ag, List.length_nil, D.size, D.sizeL, sub_ag, Int.cast_ofNat_Int, go_sem, ↓reduceIte, Nat.reduceEqDiff, Nat.reduceAdd, Nat.reduceLeDiff, Nat.reduceLT, Bool.false_eq_true, List.nil_append]
  by_cases e4 : k = 4
  · subst e4
    obtain ⟨rfl, h1, h2⟩ := leaf4 hT.1
    have hw : IntKind.i64.wrap (n + 1) = n + 1 := wrap_i64 (by omega) (by omega)
    rw [show topE 3 (.mk 4 n nn []) = _ from topE_mk, show topE 4 (.mk 4 n nn []) = _ from topE_mk]
    simp only [Int.reduceEq, if_true, if_false, topEs]
    rw [mx_zero a0]
    refine afw_of_res (wv := .no) hr hm rfl rfl rfl fun hb ha => ?_
    simp +contextual -implicitDefEqProofs only [k_l04Top, uI, hw, isAg_ag, isAg_sc, atA0, List.map_cons, List.map_nil, D.size, D.sizeL, sub_ag, Int.reduceBEq, beq_self_eq_true, go_sem, ↓reduceIte, Nat.reduceEqDiff, Nat.reduceAdd, Nat.reduceLeDiff, Nat.reduceLT, Bool.false_eq_true]
    refine callQ_self (ds := [eI b, eI (n + 1)]) (by rfl) (hc1 b (n + 1)) ?_
    simp +contextual -implicitDefEqProofs only [mx_def, isAg_sc, atA0, List.length_cons, List.length_nil, D.size, modeOf, noPtrs, eI, Bool.and_true, go_sem, ↓reduceIte, Nat.reduceEqDiff, Nat.reduceLeDiff, Nat.reduceLT, Bool.false_eq_true]
    refine vc_on (α := Unit) [] (fun _ => []) (fun _ => True) (fun _ => 0) () (by simp only [subEnv, go_sem]) trivial ?_
    rintro ⟨⟩ _
    simp +contextual -implicitDefEqProofs only [Int.lt_irrefl, isAg_ag, List.length_nil, D.size, D.sizeL, sub_ag, Int.cast_ofNat_Int, go_sem, ↓reduceIte, Nat.reduceEqDiff, Nat.reduceAdd, Nat.reduceLeDiff, Nat.reduceLT, Bool.false_eq_true, List.nil_append]
  have e3' : (k == 3) = false := by simp [e3]
  have e4' : (k == 4) = false := by simp [e4]
  rw [topE_mk, topE_mk, if_neg e3, if_neg e4, ← topEs_mx a0, ← topEs_mx b0]
  refine afw_of_res (wv := .no) hr hm rfl rfl rfl fun hb ha => ?_
  have hl : ks.length ≤ 9223372036854775807 := by
    have := ha.1
    simp only [bdA, D.bd, D.bdL, List.length_map, maxEl] at this
    exact this.2.2.1.1
  simp +contextual -implicitDefEqProofs only [k_l04Top, uI, e3', e4', isAg_ag, D.size, D.sizeL, sub_ag, go_sem, ↓reduceIte, Nat.reduceEqDiff, Nat.reduceAdd, Nat.reduceLeDiff, Nat.reduceLT, Bool.false_eq_true]
  refine vc_onU (α := Nat) [6, 39, 40, 41, 42, 43, 44, 45, 46, 47, 48, 49, 50, 51, 52, 53, 54, 55, 56] (fun i => [(6, .im none (.sc (.int .i64 i)))]) (fun i => [(3000000000, uI (topEs 3 (ks.take i) a)), (3000000001, uI (topEs 4 (ks.take i) b))]) (fun i => i ≤ ks.length) (fun i => ks.length - i) 0 (Ent.to [] (by simp only [go_sem]; rfl) rfl (by simp [topEs, uI]) (by rfl) (by simp only [subEnv, go_sem, ↓reduceIte, Nat.reduceEqDiff, keep, memN, Bool.false_eq_true] <;> simp)) (Nat.zero_le _) ?_
  intro i hi0
  have c3 := topEs_b (kd := 3) (.inl rfl) hT.2 (i := i) a0 a1
  have c4 := topEs_b (kd := 4) (.inr rfl) hT.2 (i := i) b0 b1
  by_cases hi : i < ks.length
  · have e1 := at_map (f := eE) hi
    have s3 := topEs_succ (kd := 3) hi (x := a)
    have s4 := topEs_succ (kd := 4) hi (x := b)
    simp +contextual -implicitDefEqProofs only [e1, hi, Int.ofNat_lt, List.length_map, Int.natCast_nonneg, Nat.zero_lt_one, uI, isAg_ag, List.map_cons, List.map_nil, D.size, D.sizeL, sub_ag, go_sem, ↓reduceIte, Nat.reduceEqDiff, Nat.reduceAdd, Nat.reduceLeDiff, Nat.reduceLT, Bool.false_eq_true, List.cons_append, List.nil_append]
    refine wcl_self [3000000000, 3000000001] [] (by rfl) (by rfl) (by rfl) (ih ks[i] (List.getElem_mem _) (hT.2 _ (List.getElem_mem _)) (topEs 3 (ks.take i) a) (topEs 4 (ks.take i) b) c3.1 c3.2 c4.1 c4.2) rfl (by simp [wOut, outU, uI]) ?_
    rw [← s3, ← s4]
    simp +contextual -implicitDefEqProofs only [uI, List.map_nil, Bool.or_false, go_sem, ↓reduceIte, Nat.reduceEqDiff, Bool.false_eq_true, List.cons_append, List.nil_append]
    rw [wrap_i64 (by omega) (by omega)]
    exact ⟨i + 1, by omega, by omega, Ent.to [] (by simp only [go_sem]; rfl) rfl (by simp []) (by rfl) (by simp only [subEnv, go_sem, ↓reduceIte, Nat.reduceEqDiff] <;> simp)⟩
  · simp +contextual -implicitDefEqProofs only [hi, uI, isAg_ag, D.size, D.sizeL, List.length_map, sub_ag, go_sem, ↓reduceIte, Nat.reduceEqDiff, Nat.reduceAdd, Nat.reduceLeDiff, Nat.reduceLT, Bool.false_eq_true, List.cons_append, List.nil_append, Int.ofNat_lt]
    rw [List.take_of_length_le (by omega)]
    exact ⟨rfl, rfl⟩

def k_l04Needs (g : Nat) : RC := (.seq (.reg false [⟨none, .mv 6 (.c (.sc (.bool false)))⟩]) ((.seq ((.seq (.reg false [⟨none, .mv 8 (.t 0)⟩, ⟨none, .nck 9 (.t 8)⟩, ⟨none, .fa 10 0 (.t 9)⟩, ⟨none, .ld 11 false 1 (.t 10)⟩, ⟨none, .mv 12 (.t 1)⟩, ⟨none, .bin 13 .eql (.t 11) (.t 12)⟩, ⟨none, .mv 14 (.t 13)⟩, ⟨some (14, true), .mv 15 (.t 0)⟩, ⟨some (14, true), .nck 16 (.t 15)⟩, ⟨some (14, true), .fa 17 1 (.t 16)⟩, ⟨some (14, true), .ld 18 false 1 (.t 17)⟩, ⟨some (14, true), .mv 19 (.t 2)⟩, ⟨some (14, true), .bin 20 .geq (.t 18) (.t 19)⟩, ⟨none, .pick 21 (.t 14) (.t 20) (.c (.sc (.bool false)))⟩]) (.cond (.t 21) ((.seq (.reg false [⟨none, .mv 6 (.c (.sc (.bool true)))⟩]) (.ret))) (.skip)))) ((.seq ((.seq (.reg false [⟨none, .mv 7 (.c (.sc (.int .i64 0)))⟩]) (.blk 0 (.loop ((.seq ((.seq (.reg false [⟨none, .mv 22 (.t 7)⟩, ⟨none, .mv 23 (.t 0)⟩, ⟨none, .nck 24 (.t 23)⟩, ⟨none, .fa 25 2 (.t 24)⟩, ⟨none, .ld 26 false 1 (.t 25)⟩, ⟨none, .len 27 (.t 26)⟩, ⟨none, .bin 28 .lss (.t 22) (.t 27)⟩]) (.cond (.t 28) (.skip) (.exit 0)))) ((.seq (.blk 1 ((.seq (.reg false [⟨none, .mv 31 (.t 0)⟩, ⟨none, .nck 32 (.t 31)⟩, ⟨none, .fa 33 2 (.t 32)⟩, ⟨none, .ld 34 false 1 (.t 33)⟩, ⟨none, .mv 35 (.t 7)⟩, ⟨none, .ia 36 3 (.t 34) (.t 35)⟩, ⟨none, .mv 37 (.t 1)⟩, ⟨none, .mv 38 (.t 2)⟩, ⟨none, .call (some 39) g [(.t 36), (.t 37), (.t 38)]⟩]) (.cond (.t 39) ((.seq (.reg false [⟨none, .mv 6 (.c (.sc (.bool true)))⟩]) (.ret))) (.skip))))) (.reg false [⟨none, .mv 29 (.t 7)⟩, ⟨none, .bin 30 .add (.t 29) (.c (.sc (.int .i64 1)))⟩, ⟨none, .mv 7 (.t 30)⟩]))))))))) ((.seq (.reg false [⟨none, .mv 6 (.c (.sc (.bool false)))⟩]) (.ret))))))))
def K_l04Needs (P : Program) (fno : Nat) : Prop := ∀ (kd f : Int) (hk : kd = 3 ∨ kd = 4) (h0 : 0 ≤ f) (e : Ex) (hT : treeE wide e = true), AF P fno [.pt (eE e) 0, eI kd, eI f] (.own (eB (decide (f < topE kd e))))
theorem a_l04Needs {P : Program} (hm : P.follows .mixedOrders = true) {g : Nat} (hr : resF P g = some (40, k_l04Needs g, [.t 6])) : K_l04Needs P g := by
  intro kd f hk h0 e hT
  refine Ex.ind (p := fun e => treeE wide e = true → AF P g [.pt (eE e) 0, eI kd, eI f] (.own (eB (decide (f < topE kd e))))) (fun k n nn ks ih hT => ?_) e hT
  rw [treeE_mk, Bool.and_eq_true, List.all_eq_true] at hT
  rw [eE_mk]
  by_cases hkk : k = kd
  · subst hkk
    rcases hk with rfl | rfl
    · obtain ⟨rfl, h1, h2⟩ := leaf3 hT.1
      rw [topE_mk, if_pos rfl]
      refine af_of_res hr hm rfl fun hb => ?_
      cases hg : decide (n ≥ f)
      · have hg' : ¬ n ≥ f := by simpa using hg
        rw [show decide (f < n + 1) = false from decide_eq_false (by omega)]
        simp +contextual -implicitDefEqProofs only [k_l04Needs, hg', isAg_ag, List.map_nil, D.size, D.sizeL, eI, eB, sub_ag, beq_self_eq_true, go_sem, ↓reduceIte, Nat.reduceEqDiff, Nat.reduceAdd, Nat.reduceLeDiff, Nat.reduceLT, Bool.false_eq_true]
        refine vc_on (α := Unit) [] (fun _ => []) (fun _ => True) (fun _ => 0) () (by simp only [subEnv, go_sem]) trivial ?_
        rintro ⟨⟩ _
        simp +contextual -implicitDefEqProofs only [Int.lt_irrefl, isAg_ag, List.length_nil, D.size, D.sizeL, sub_ag, Int.cast_ofNat_Int, go_sem, ↓reduceIte, Nat.reduceEqDiff, Nat.reduceAdd, Nat.reduceLeDiff, Nat.reduceLT, Bool.false_eq_true, List.nil_append]
      · have hg' : n ≥ f := by simpa using hg
        rw [show decide (f < n + 1) = true from decide_eq_true (by omega)]
        simp +contextual -implicitDefEqProofs only [k_l04Needs, hg', isAg_ag, List.map_nil, D.size, D.sizeL, eI, eB, sub_ag, beq_self_eq_true, go_sem, ↓reduceIte, Nat.reduceEqDiff, Nat.reduceAdd, Nat.reduceLeDiff, Nat.reduceLT, Bool.false_eq_true]
    · obtain ⟨rfl, h1, h2⟩ := leaf4 hT.1
      rw [topE_mk, if_pos rfl]
      refine af_of_res hr hm rfl fun hb => ?_
      cases hg : decide (n ≥ f)
      · have hg' : ¬ n ≥ f := by simpa using hg
        rw [show decide (f < n + 1) = false from decide_eq_false (by omega)]
        simp +contextual -implicitDefEqProofs only [k_l04Needs, hg', isAg_ag, List.map_nil, D.size, D.sizeL, eI, eB, sub_ag, beq_self_eq_true, go_sem, ↓reduceIte, Nat.reduceEqDiff, Nat.reduceAdd, Nat.reduceLeDiff, Nat.reduceLT, Bool.false_eq_true]
        refine vc_on (α := Unit) [] (fun _ => []) (fun _ => True) (fun _ => 0) () (by simp only [subEnv, go_sem]) trivial ?_
        rintro ⟨⟩ _
        simp +contextual -implicitDefEqProofs only [Int.lt_irrefl, isAg_ag, List.length_nil, D.size, D.sizeL, sub_ag, Int.cast_ofNat_Int, go_sem, ↓reduceIte, Nat.reduceEqDiff, Nat.reduceAdd, Nat.reduceLeDiff, Nat.reduceLT, Bool.false_eq_true, List.nil_append]
      · have hg' : n ≥ f := by simpa using hg
        rw [show decide (f < n + 1) = true from decide_eq_true (by omega)]
        simp +contextual -implicitDefEqProofs only [k_l04Needs, hg', isAg_ag, List.map_nil, D.size, D.sizeL, eI, eB, sub_ag, beq_self_eq_true, go_sem, ↓reduceIte, Nat.reduceEqDiff, Nat.reduceAdd, Nat.reduceLeDiff, Nat.reduceLT, Bool.false_eq_true]
  have hk' : (k == kd) = false := by simp [hkk]
  rw [topE_mk, if_neg hkk]
  refine af_of_res hr hm rfl fun hb => ?_
  have hl : ks.length ≤ 9223372036854775807 := by
    have := hb.1
    simp only [D.bd, D.bdL, List.length_map, maxEl] at this
    exact this.2.2.1.1
  simp +contextual -implicitDefEqProofs only [k_l04Needs, hk', isAg_ag, D.size, D.sizeL, eI, eB, sub_ag, go_sem, ↓reduceIte, Nat.reduceEqDiff, Nat.reduceAdd, Nat.reduceLeDiff, Nat.reduceLT, Bool.false_eq_true]
  refine vc_on (α := Nat) [6, 7, 22, 23, 24, 25, 26, 27, 28, 29, 30, 31, 32, 33, 34, 35, 36, 37, 38, 39] (fun i => [(7, .im none (.sc (.int .i64 i)))]) (fun i => i ≤ ks.length ∧ topEs kd (ks.take i) 0 ≤ f) (fun i => ks.length - i) 0 (by simp only [subEnv, go_sem, ↓reduceIte]; simp) ⟨Nat.zero_le _, by simpa [topEs] using h0⟩ ?_
  rintro i ⟨j1, j2⟩
  by_cases hi : i < ks.length
  · have e1 := at_map (f := eE) hi
    have s3 := topEs_succ (kd := kd) hi (x := 0)
    simp +contextual -implicitDefEqProofs only [e1, hi, Int.ofNat_lt, List.length_map, Int.natCast_nonneg, Nat.zero_lt_one, go_sem, ↓reduceIte, Nat.reduceEqDiff, Nat.reduceAdd, Nat.reduceLeDiff, Nat.reduceLT, Bool.false_eq_true, List.cons_append, List.nil_append]
    refine callQ_self ?_ (ih ks[i] (List.getElem_mem _) (hT.2 _ (List.getElem_mem _))) ?_
    · exact rfl
    cases hx : decide (f < topE kd ks[i])
    · have hx' : ¬ f < topE kd ks[i] := by simpa using hx
      simp +contextual -implicitDefEqProofs only [go_sem, eB, ↓reduceIte, Nat.reduceEqDiff]
      rw [wrap_i64 (by omega) (by omega)]
      have := @mx_or (topEs kd (ks.take i) 0) (topE kd ks[i])
      exact ⟨i + 1, ⟨by omega, by rw [s3]; omega⟩, by omega, Ent.env (by simp only [subEnv, go_sem, ↓reduceIte, Nat.reduceEqDiff]; simp)⟩
    · have hx' : f < topE kd ks[i] := by simpa using hx
      have := (topEs_ge (kd := kd) (l := ks) (x := 0)).2 _ (List.getElem_mem hi)
      rw [show decide (f < topEs kd ks 0) = true from decide_eq_true (by omega)]
      simp +contextual -implicitDefEqProofs only [go_sem, eB, ↓reduceIte]
  · simp +contextual -implicitDefEqProofs only [hi, Int.ofNat_lt, List.length_map, go_sem, ↓reduceIte, Nat.reduceEqDiff, Nat.reduceAdd, Nat.reduceLeDiff, Nat.reduceLT, Bool.false_eq_true, List.cons_append, List.nil_append]
    rw [List.take_of_length_le (by omega)] at j2
    rw [show decide (f < topEs kd ks 0) = false from decide_eq_false (by omega)]
    exact D.Le.refl _
theorem getD_of {ts : List Ex} {m : Nat} (h : m < ts.length) : ts.getD m default = ts[m] := by
  simp only [List.getD, List.getElem?_eq_getElem h, Option.getD_some]

def k_filled (g f1 : Nat) : RC := (.seq (.reg false [⟨none, .box 3 3 (.t 0)⟩, ⟨none, .zer 6 3 (.ag [(.sc (.int .i64 0)), (.sc (.int .i64 0)), (.ls (some true) 3 [])])⟩]) ((.seq (.blk 0 ((.seq (.reg false [⟨none, .fa 11 0 (.t 3)⟩, ⟨none, .ld 12 false 1 (.t 11)⟩, ⟨none, .bin 13 .eql (.t 12) (.c (.sc (.int .i64 3)))⟩, ⟨none, .mv 14 (.t 13)⟩, ⟨some (14, true), .mv 15 (.t 1)⟩, ⟨some (14, true), .snil 16 true (.t 15) (.c (.ls (some true) 3 []))⟩, ⟨none, .pick 17 (.t 14) (.t 16) (.c (.sc (.bool false)))⟩, ⟨none, .mv 10 (.t 17)⟩]) (.cond (.t 10) ((.seq (.reg false [⟨none, .mv 18 (.t 1)⟩, ⟨none, .fa 19 1 (.t 3)⟩, ⟨none, .ld 20 false 1 (.t 19)⟩, ⟨none, .ia 21 3 (.t 18) (.t 20)⟩, ⟨none, .ld 22 true 3 (.t 21)⟩, ⟨none, .call (some 23) f1 [(.t 22)]⟩, ⟨none, .st 3 (.t 6) (.t 23)⟩]) (.ret))) ((.seq (.reg false [⟨none, .fa 25 0 (.t 3)⟩, ⟨none, .ld 26 false 1 (.t 25)⟩, ⟨none, .bin 27 .eql (.t 26) (.c (.sc (.int .i64 4)))⟩, ⟨none, .mv 28 (.t 27)⟩, ⟨some (28, true), .mv 29 (.t 2)⟩, ⟨some (28, true), .snil 30 true (.t 29) (.c (.ls (some true) 3 []))⟩, ⟨none, .pick 31 (.t 28) (.t 30) (.c (.sc (.bool false)))⟩, ⟨none, .mv 24 (.t 31)⟩]) (.cond (.t 24) ((.seq (.reg false [⟨none, .mv 32 (.t 2)⟩, ⟨none, .fa 33 1 (.t 3)⟩, ⟨none, .ld 34 false 1 (.t 33)⟩, ⟨none, .ia 35 3 (.t 32) (.t 34)⟩, ⟨none, .ld 36 true 3 (.t 35)⟩, ⟨none, .call (some 37) f1 [(.t 36)]⟩, ⟨none, .st 3 (.t 6) (.t 37)⟩]) (.ret))) (.skip)))))))) ((.seq (.reg false [⟨none, .fa 38 0 (.t 3)⟩, ⟨none, .ld 39 false 1 (.t 38)⟩, ⟨none, .fa 40 1 (.t 3)⟩, ⟨none, .ld 41 false 1 (.t 40)⟩, ⟨none, .bld 42 (.ag [(.sc (.int .i64 0)), (.sc (.int .i64 0)), (.ls (some true) 3 [])]) [(0, 1, (.t 39)), (1, 1, (.t 41))]⟩, ⟨none, .zer 7 3 (.ag [(.sc (.int .i64 0)), (.sc (.int .i64 0)), (.ls (some true) 3 [])])⟩, ⟨none, .st 3 (.t 7) (.t 42)⟩]) ((.seq ((.seq (.reg false [⟨none, .fa 43 2 (.t 3)⟩, ⟨none, .ld 44 false 1 (.t 43)⟩, ⟨none, .len 45 (.t 44)⟩, ⟨none, .mv 46 (.c (.sc (.int .i64 0)))⟩]) (.blk 1 (.loop ((.seq (.reg false [⟨none, .bin 47 .lss (.t 46) (.t 45)⟩]) ((.seq (.cond (.t 47) (.skip) (.exit 1)) ((.seq (.blk 2 ((.seq (.reg false [⟨none, .ia 48 3 (.t 44) (.t 46)⟩, ⟨none, .ld 49 true 3 (.t 48)⟩, ⟨none, .zer 9 3 (.ag [(.sc (.int .i64 0)), (.sc (.int .i64 0)), (.ls (some true) 3 [])])⟩, ⟨none, .st 3 (.t 9) (.t 49)⟩]) (.reg true [⟨none, .fa 50 2 (.t 7)⟩, ⟨none, .ld 51 false 1 (.t 50)⟩, ⟨none, .ld 52 true 3 (.t 9)⟩, ⟨none, .mv 53 (.t 1)⟩, ⟨none, .mv 54 (.t 2)⟩, ⟨none, .call (some 55) g [(.t 52), (.t 53), (.t 54)]⟩, ⟨none, .bs 56 3 (.ag [(.sc (.int .i64 0)), (.sc (.int .i64 0)), (.ls (some true) 3 [])]) 1 [(0, (.t 55))]⟩, ⟨none, .app 57 3 40 (.t 51) (.t 56)⟩, ⟨none, .fa 58 2 (.t 7)⟩, ⟨none, .st 1 (.t 58) (.t 57)⟩])))) (.reg false [⟨none, .bin 59 .add (.t 46) (.c (.sc (.int .i64 1)))⟩, ⟨none, .mv 46 (.t 59)⟩]))))))))))) ((.seq (.reg false [⟨none, .ld 60 true 3 (.t 7)⟩, ⟨none, .st 3 (.t 6) (.t 60)⟩]) (.ret))))))))))
def K_filled (P : Program) (fno : Nat) : Prop := ∀ (ts qs : List Ex) (hts : ∀ t ∈ ts, fitE t) (hqs : ∀ t ∈ qs, fitE t) (e : Ex) (hf : fitE e) (hT : treeE wide e = true) (h3 : topE 3 e ≤ ts.length) (h4 : topE 4 e ≤ qs.length), AF P fno [eE e, .ls (some false) 3 (ts.map eE), .ls (some false) 3 (qs.map eE)] (.own (eE (subE ts qs e)))
theorem a_filled {P : Program} (hm : P.follows .mixedOrders = true) {g f1 : Nat} (hr : resF P g = some (61, k_filled g f1, [.c 6 3 true])) (hc1 : K_copyExpr P f1) : K_filled P g := by
  intro ts qs hts hqs e hf hT h3 h4
  refine Ex.ind (p := fun e => fitE e → treeE wide e = true → topE 3 e ≤ ts.length → topE 4 e ≤ qs.length → AF P g [eE e, .ls (some false) 3 (ts.map eE), .ls (some false) 3 (qs.map eE)] (.own (eE (subE ts qs e)))) (fun k n nn ks ih hf hT h3 h4 => ?_) e hf hT h3 h4
  rw [treeE_mk, Bool.and_eq_true, List.all_eq_true] at hT
  rw [fitE_mk] at hf
  rw [topE_mk] at h3 h4
  rw [eE_mk]
  by_cases e3 : k = 3
  · subst e3
    obtain ⟨rfl, h1, h2⟩ := leaf3 hT.1
    simp only [Int.reduceEq, if_true, if_false] at h3 h4
    obtain ⟨m, rfl⟩ : ∃ m : Nat, n = m := ⟨n.toNat, by omega⟩
    have hm' : m < ts.length := by omega
    have e1 := at_map (f := eE) hm'
    rw [show subE ts qs (.mk 3 m nn []) = cpE ts[m] by rw [subE_mk]; simp only [Int.reduceEq, if_true, if_false, Int.toNat_natCast, getD_of hm']]
    refine af_of_res hr hm rfl fun hb => ?_
    simp +contextual -implicitDefEqProofs only [k_filled, e1, hm', encE.sub, isAg_ag, eE_size, eE_isAg, atA0, List.map_cons, List.map_nil, D.size, D.sizeL, List.length_map, sub_ag, beq_self_eq_true, bne, Bool.not_false, Bool.and_true, go_sem, ↓reduceIte, Nat.reduceEqDiff, Nat.reduceAdd, Nat.reduceLeDiff, Nat.reduceBEq, Nat.reduceLT, Bool.false_eq_true, List.cons_append, List.nil_append, Int.ofNat_lt, Int.natCast_nonneg]
    refine callQ_self (ds := [eE ts[m]]) ?_ (hc1 ts[m] (hts _ (List.getElem_mem hm'))) ?_
    · exact rfl
    rw [eE_eta (cpE ts[m])]
    simp +contextual -implicitDefEqProofs only [isAg_ag, atA0, List.length_cons, List.length_nil, D.size, D.sizeL, modeOf, noPtrs, sub_ag, beq_self_eq_true, bne, Bool.not_false, Bool.true_and, Bool.and_true, Bool.and_false, go_sem, ↓reduceIte, Nat.reduceEqDiff, Nat.reduceAdd, Nat.reduceLeDiff, Nat.reduceBEq, Nat.reduceLT, Bool.false_eq_true, List.cons_append, List.nil_append]
  by_cases e4 : k = 4
  · subst e4
    obtain ⟨rfl, h1, h2⟩ := leaf4 hT.1
    simp only [Int.reduceEq, if_true, if_false] at h3 h4
    obtain ⟨m, rfl⟩ : ∃ m : Nat, n = m := ⟨n.toNat, by omega⟩
    have hm' : m < qs.length := by omega
    have e1 := at_map (f := eE) hm'
    rw [show subE ts qs (.mk 4 m nn []) = cpE qs[m] by rw [subE_mk]; simp only [Int.reduceEq, if_true, if_false, Int.toNat_natCast, getD_of hm']]
    refine af_of_res hr hm rfl fun hb => ?_
    simp +contextual -implicitDefEqProofs only [k_filled, e1, hm', encE.sub, isAg_ag, eE_size, eE_isAg, atA0, List.map_cons, List.map_nil, D.size, D.sizeL, List.length_map, sub_ag, Int.reduceBEq, beq_self_eq_true, bne, Bool.not_false, Bool.and_true, go_sem, ↓reduceIte, Nat.reduceEqDiff, Nat.reduceAdd, Nat.reduceLeDiff, Nat.reduceBEq, Nat.reduceLT, Bool.false_eq_true, List.cons_append, List.nil_append, Int.ofNat_lt, Int.natCast_nonneg]
    refine callQ_self (ds := [eE qs[m]]) ?_ (hc1 qs[m] (hqs _ (List.getElem_mem hm'))) ?_
    · exact rfl
    rw [eE_eta (cpE qs[m])]
    simp +contextual -implicitDefEqProofs only [isAg_ag, atA0, List.length_cons, List.length_nil, D.size, D.sizeL, modeOf, noPtrs, sub_ag, beq_self_eq_true, bne, Bool.not_false, Bool.true_and, Bool.and_true, Bool.and_false, go_sem, ↓reduceIte, Nat.reduceEqDiff, Nat.reduceAdd, Nat.reduceLeDiff, Nat.reduceBEq, Nat.reduceLT, Bool.false_eq_true, List.cons_append, List.nil_append]
  rw [if_neg e3] at h3
  rw [if_neg e4] at h4
  have e3' : (k == 3) = false := by simp [e3]
  have e4' : (k == 4) = false := by simp [e4]
  rw [subE_mk, if_neg e3, if_neg e4, eE_mk]
  refine af_of_res hr hm rfl fun hb => ?_
  have hl : ks.length ≤ 9223372036854775807 := by
    have := hb.1
    simp only [D.bd, D.bdL, List.length_map, maxEl] at this
    exact this.2.2.1.1
  simp +contextual -implicitDefEqProofs only [k_filled, e3', e4', D.put, D.cells, D.size, D.sizeL, D.at, D.sub, D.isAg, modeOf, noPtrs, List.length_map, go_sem, ↓reduceIte, Nat.reduceEqDiff, Nat.reduceAdd, Nat.reduceLeDiff, Nat.reduceBEq, Nat.reduceBneDiff, Nat.reduceLT, Nat.reduceSub, Bool.false_eq_true, List.cons_append, List.nil_append]
  refine vc_onU (α := Nat) [9, 46, 47, 48, 49, 50, 51, 52, 53, 54, 55, 56, 57, 58, 59] (fun i => [(46, .im none (.sc (.int .i64 i)))]) (fun i => [(7, .ar true (some false) 3 [.ag [.sc (.int .i64 k), .sc (.int .i64 n), .ls (nnL (ks.take i)) 3 (((ks.take i).map (subE ts qs)).map eE)]]), (6, .ar true (some false) 3 [.ag [.sc (.int .i64 0), .sc (.int .i64 0), .ls (some true) 3 []]]), (3, .ar false (some false) 3 [.ag [.sc (.int .i64 k), .sc (.int .i64 n), .ls nn 3 (ks.map eE)]])]) (fun i => i ≤ ks.length) (fun i => ks.length - i) 0 (Ent.to [] (by simp only [go_sem]; rfl) rfl (by simp [nnL]) (by rfl) (by simp only [subEnv, go_sem, ↓reduceIte, Nat.reduceEqDiff, keep, memN, Bool.false_eq_true] <;> simp)) (Nat.zero_le _) ?_
  intro i hi0
  by_cases hi : i < ks.length
  · have e1 := at_map (f := eE) hi
    have hlen : ((ks.take i).map (fun x => eE (subE ts qs x))).length = i := by simp; omega
    simp +contextual -implicitDefEqProofs only [hi, e1, encE.sub, eE_size, eE_isAg, go_sem, ↓reduceIte, Nat.reduceEqDiff, Nat.reduceAdd, Nat.reduceLeDiff, Nat.reduceBEq, Nat.reduceBneDiff, Nat.reduceLT, Bool.false_eq_true, List.cons_append, List.nil_append, Int.ofNat_lt, List.length_map, Int.natCast_nonneg]
    refine callQ_self ?_ (ih ks[i] (List.getElem_mem hi) (hf.2 _ (List.getElem_mem hi)) (hT.2 _ (List.getElem_mem hi)) (Int.le_trans (topEs_ge.2 _ (List.getElem_mem hi)) h3) (Int.le_trans (topEs_ge.2 _ (List.getElem_mem hi)) h4)) ?_
    · exact rfl
    simp +contextual -implicitDefEqProofs only [eE_size, go_sem, ↓reduceIte, Nat.reduceEqDiff, Nat.reduceAdd, Nat.reduceLeDiff, Nat.reduceMul, Nat.reduceBEq, Nat.reduceBneDiff, Nat.reduceLT, Bool.false_eq_true, List.cons_append, List.nil_append, List.length_map]
    have hl2 : (ks.take i).length = i := by simp; omega
    refine ⟨rfl, ⟨by omega, by unfold maxEl; omega, by simp [eE_size]⟩, i + 1, by omega, by omega, ?_⟩
    rw [wrap_i64 (by omega) (by omega)]
    exact Ent.to [9] (by simp only [go_sem, ↓reduceIte, Nat.reduceEqDiff, Nat.reduceBEq, Bool.false_eq_true]; rfl) rfl (by simp [nnL_take hi, map_take hi, List.map_append]) (by rfl) (by simp only [subEnv, go_sem, ↓reduceIte, Nat.reduceEqDiff] <;> simp)
  · simp +contextual -implicitDefEqProofs only [hi, go_sem, ↓reduceIte, Nat.reduceEqDiff, Nat.reduceAdd, Nat.reduceLeDiff, Nat.reduceBEq, Nat.reduceLT, Bool.false_eq_true, List.cons_append, List.nil_append, Int.ofNat_lt]
    rw [List.take_of_length_le (by omega)]
    exact D.Le.refl _
def insR (g : Int × Int) (ts qs : List Ex) (e : Ex) : Ex × Int := if okE g (subE ts qs e) = true then (subE ts qs e, 0) else (noE, 3)

def k_instance (f1 f2 : Nat) : RC := (.seq (.reg false [⟨none, .box 4 2 (.t 0)⟩, ⟨none, .box 5 3 (.t 1)⟩, ⟨none, .zer 8 3 (.ag [(.sc (.int .i64 0)), (.sc (.int .i64 0)), (.ls (some true) 3 [])])⟩, ⟨none, .mv 9 (.c (.sc (.int .i64 0)))⟩]) ((.seq (.reg true [⟨none, .ld 11 true 3 (.t 5)⟩, ⟨none, .bse 12 3⟩, ⟨none, .mv 13 (.t 2)⟩, ⟨none, .ape 14 3 40 (.t 12) (.t 13)⟩, ⟨none, .bse 15 3⟩, ⟨none, .mv 16 (.t 3)⟩, ⟨none, .ape 17 3 40 (.t 15) (.t 16)⟩, ⟨none, .call (some 18) f1 [(.t 11), (.t 14), (.t 17)]⟩, ⟨none, .zer 10 3 (.ag [(.sc (.int .i64 0)), (.sc (.int .i64 0)), (.ls (some true) 3 [])])⟩, ⟨none, .st 3 (.t 10) (.t 18)⟩]) ((.seq ((.seq (.reg false [⟨none, .ld 19 true 2 (.t 4)⟩, ⟨none, .ld 20 true 3 (.t 10)⟩, ⟨none, .call (some 21) f2 [(.t 19), (.t 20)]⟩, ⟨none, .un 22 .not (.t 21)⟩]) (.cond (.t 22) ((.seq (.reg false [⟨none, .bld 23 (.ag [(.sc (.int .i64 0)), (.sc (.int .i64 0)), (.ls (some true) 3 [])]) []⟩, ⟨none, .st 3 (.t 8) (.t 23)⟩, ⟨none, .mv 9 (.c (.sc (.int .i64 3)))⟩]) (.ret))) (.skip)))) ((.seq (.reg false [⟨none, .ld 24 true 3 (.t 10)⟩, ⟨none, .st 3 (.t 8) (.t 24)⟩, ⟨none, .mv 9 (.c (.sc (.int .i64 0)))⟩]) (.ret))))))))
def K_instance (P : Program) (fno : Nat) : Prop := ∀ (g : Int × Int) (ts qs : List Ex) (n1 n2 : Option Bool) (ht : ts.length ≤ 1048576) (hq : qs.length ≤ 1048576) (hts : ∀ t ∈ ts, fitE t) (hqs : ∀ t ∈ qs, fitE t) (e : Ex) (hf : fitE e) (hT : treeE wide e = true) (h3 : topE 3 e ≤ ts.length) (h4 : topE 4 e ≤ qs.length), AF P fno [eG g, eE e, .ls n1 3 (ts.map eE), .ls n2 3 (qs.map eE)] (.tup ([.own (eE (insR g ts qs e).1), .own (eI (insR g ts qs e).2)]))
theorem a_instance {P : Program} (hm : P.follows .mixedOrders = true) {g f1 f2 : Nat} (hr : resFw P .ap g = some (25, k_instance f1 f2, [.c 8 3 true, .t 9])) (hc1 : K_filled P f1) (hc2 : K_isExpr P f2) : K_instance P g := by
  intro g ts qs n1 n2 ht hq hts hqs e hf hT h3 h4
  have hF := hc1 ts qs hts hqs e hf hT h3 h4
  have hV := hc2 g (subE ts qs e)
  have hR : insR g ts qs e = if okE g (subE ts qs e) = true then (subE ts qs e, 0) else (noE, 3) := rfl
  generalize subE ts qs e = r at hF hV hR
  rw [hR]
  obtain ⟨k, n, nn, ks, rfl⟩ := Ex.ex e
  obtain ⟨rk, rn, rnn, rks, rfl⟩ := Ex.ex r
  simp only [eE_mk] at hF hV ⊢
  refine af_of_resw hr hm rfl fun hb => ?_
  simp +contextual -implicitDefEqProofs only [k_instance, isAg_ag, atA0, List.map_cons, List.map_nil, D.size, D.sizeL, List.length_map, eI, eG, sub_ag, beq_self_eq_true, bne, Bool.not_false, Bool.and_true, go_sem, ↓reduceIte, Nat.reduceEqDiff, Nat.reduceAdd, Nat.reduceLeDiff, Nat.reduceBEq, Nat.reduceLT, Bool.false_eq_true, List.cons_append, List.nil_append]
  refine ⟨⟨by omega, by unfold maxEl; omega⟩, ⟨by omega, by unfold maxEl; omega⟩, ?_⟩
  refine callQ_self (by rfl) hF ?_
  simp +contextual -implicitDefEqProofs only [isAg_ag, atA0, List.map_cons, List.map_nil, List.length_cons, List.length_nil, D.size, D.sizeL, modeOf, noPtrs, sub_ag, beq_self_eq_true, bne, Bool.not_false, Bool.true_and, Bool.and_true, Bool.and_false, go_sem, ↓reduceIte, Nat.reduceEqDiff, Nat.reduceAdd, Nat.reduceLeDiff, Nat.reduceBEq, Nat.reduceLT, Bool.false_eq_true, List.cons_append, List.nil_append]
  refine callQ_self (by rfl) hV ?_
  cases hx : okE g (Ex.mk rk rn rnn rks)
  · rw [if_neg Bool.false_ne_true]
    simp +contextual -implicitDefEqProofs only [noE, eE_mk, isAg_ag, atA0, List.map_cons, List.map_nil, List.length_cons, List.length_nil, D.cells, D.size, D.sizeL, modeOf, noPtrs, eB, sub_ag, beq_self_eq_true, bne, Bool.not_false, Bool.and_true, Bool.and_false, Bool.or_true, Bool.or_false, go_sem, ↓reduceIte, Nat.reduceEqDiff, Nat.reduceAdd, Nat.reduceLeDiff, Nat.reduceBEq, Nat.reduceLT, Bool.false_eq_true, List.cons_append, List.nil_append]
  · rw [if_pos rfl]
    simp +contextual -implicitDefEqProofs only [eE_mk, isAg_ag, atA0, List.length_cons, List.length_nil, D.size, D.sizeL, modeOf, noPtrs, eB, sub_ag, beq_self_eq_true, Bool.not_true, Bool.true_and, Bool.and_true, Bool.and_false, go_sem, ↓reduceIte, Nat.reduceEqDiff, Nat.reduceAdd, Nat.reduceLeDiff, Nat.reduceLT, Bool.false_eq_true]

def k_l04Put (g f1 f2 f3 : Nat) : RC := (.seq (.reg false [⟨none, .zer 8 3 (.ag [(.sc (.int .i64 0)), (.sc (.int .i64 0)), (.ls (some true) 3 [])])⟩]) ((.seq (.reg false [⟨none, .mv 12 (.t 3)⟩, ⟨none, .nck 13 (.t 12)⟩, ⟨none, .ld 14 false 1 (.t 13)⟩, ⟨none, .bin 15 .sub (.t 14) (.c (.sc (.int .i64 1)))⟩, ⟨none, .nck 16 (.t 12)⟩, ⟨none, .st 1 (.t 16) (.t 15)⟩]) ((.seq ((.seq (.reg false [⟨none, .mv 17 (.t 3)⟩, ⟨none, .nck 18 (.t 17)⟩, ⟨none, .ld 19 false 1 (.t 18)⟩, ⟨none, .bin 20 .lss (.t 19) (.c (.sc (.int .i64 0)))⟩]) (.cond (.t 20) ((.seq (.reg false [⟨none, .bld 21 (.ag [(.sc (.int .i64 0)), (.sc (.int .i64 0)), (.ls (some true) 3 [])]) []⟩, ⟨none, .st 3 (.t 8) (.t 21)⟩]) (.ret))) (.skip)))) ((.seq (.reg false [⟨none, .mv 22 (.t 1)⟩, ⟨none, .mv 9 (.t 22)⟩]) ((.seq ((.seq (.reg false [⟨none, .mv 23 (.t 0)⟩, ⟨none, .nck 24 (.t 23)⟩, ⟨none, .fa 25 0 (.t 24)⟩, ⟨none, .ld 26 false 1 (.t 25)⟩, ⟨none, .bin 27 .eql (.t 26) (.c (.sc (.int .i64 4)))⟩]) (.cond (.t 27) (.reg false [⟨none, .mv 28 (.t 2)⟩, ⟨none, .mv 9 (.t 28)⟩]) (.skip)))) ((.seq ((.seq (.reg false [⟨none, .mv 29 (.t 0)⟩, ⟨none, .nck 30 (.t 29)⟩, ⟨none, .fa 31 0 (.t 30)⟩, ⟨none, .ld 32 false 1 (.t 31)⟩, ⟨none, .bin 33 .eql (.t 32) (.c (.sc (.int .i64 3)))⟩, ⟨none, .mv 34 (.t 33)⟩, ⟨some (34, false), .mv 35 (.t 0)⟩, ⟨some (34, false), .nck 36 (.t 35)⟩, ⟨some (34, false), .fa 37 0 (.t 36)⟩, ⟨some (34, false), .ld 38 false 1 (.t 37)⟩, ⟨some (34, false), .bin 39 .eql (.t 38) (.c (.sc (.int .i64 4)))⟩, ⟨none, .pick 40 (.t 34) (.c (.sc (.bool true))) (.t 39)⟩]) (.cond (.t 40) ((.seq ((.seq (.reg false [⟨none, .mv 41 (.t 0)⟩, ⟨none, .nck 42 (.t 41)⟩, ⟨none, .fa 43 1 (.t 42)⟩, ⟨none, .ld 44 false 1 (.t 43)⟩, ⟨none, .mv 45 (.t 9)⟩, ⟨none, .len 46 (.t 45)⟩, ⟨none, .bin 47 .geq (.t 44) (.t 46)⟩]) (.cond (.t 47) ((.seq (.reg false [⟨none, .call (some 48) f1 []⟩, ⟨none, .st 3 (.t 8) (.t 48)⟩]) (.ret))) (.skip)))) ((.seq (.reg true [⟨none, .mv 49 (.t 3)⟩, ⟨none, .nck 50 (.t 49)⟩, ⟨none, .ld 51 false 1 (.t 50)⟩, ⟨none, .mv 52 (.t 9)⟩, ⟨none, .mv 53 (.t 0)⟩, ⟨none, .nck 54 (.t 53)⟩, ⟨none, .fa 55 1 (.t 54)⟩, ⟨none, .ld 56 false 1 (.t 55)⟩, ⟨none, .ia 57 3 (.t 52) (.t 56)⟩, ⟨none, .call (some 58) f2 [(.t 57)]⟩, ⟨none, .bin 59 .sub (.t 58) (.c (.sc (.int .i64 1)))⟩, ⟨none, .bin 60 .sub (.t 51) (.t 59)⟩, ⟨none, .nck 61 (.t 49)⟩, ⟨none, .st 1 (.t 61) (.t 60)⟩]) ((.seq (.reg false [⟨none, .mv 62 (.t 9)⟩, ⟨none, .mv 63 (.t 0)⟩, ⟨none, .nck 64 (.t 63)⟩, ⟨none, .fa 65 1 (.t 64)⟩, ⟨none, .ld 66 false 1 (.t 65)⟩, ⟨none, .ia 67 3 (.t 62) (.t 66)⟩, ⟨none, .call (some 68) f3 [(.t 67)]⟩, ⟨none, .st 3 (.t 8) (.t 68)⟩]) (.ret))))))) (.skip)))) ((.seq (.reg true [⟨none, .mv 69 (.t 0)⟩, ⟨none, .nck 70 (.t 69)⟩, ⟨none, .fa 71 0 (.t 70)⟩, ⟨none, .ld 72 false 1 (.t 71)⟩, ⟨none, .mv 73 (.t 0)⟩, ⟨none, .nck 74 (.t 73)⟩, ⟨none, .fa 75 1 (.t 74)⟩, ⟨none, .ld 76 false 1 (.t 75)⟩, ⟨none, .bld 77 (.ag [(.sc (.int .i64 0)), (.sc (.int .i64 0)), (.ls (some true) 3 [])]) [(0, 1, (.t 72)), (1, 1, (.t 76))]⟩, ⟨none, .zer 10 3 (.ag [(.sc (.int .i64 0)), (.sc (.int .i64 0)), (.ls (some true) 3 [])])⟩, ⟨none, .st 3 (.t 10) (.t 77)⟩]) ((.seq ((.seq (.reg false [⟨none, .mv 11 (.c (.sc (.int .i64 0)))⟩]) (.blk 0 (.loop ((.seq ((.seq (.reg false [⟨none, .mv 78 (.t 11)⟩, ⟨none, .mv 79 (.t 0)⟩, ⟨none, .nck 80 (.t 79)⟩, ⟨none, .fa 81 2 (.t 80)⟩, ⟨none, .ld 82 false 1 (.t 81)⟩, ⟨none, .len 83 (.t 82)⟩, ⟨none, .bin 84 .lss (.t 78) (.t 83)⟩]) (.cond (.t 84) (.skip) (.exit 0)))) ((.seq (.blk 1 (.regL [⟨none, .fa 87 2 (.t 10)⟩, ⟨none, .ld 88 false 1 (.t 87)⟩, ⟨none, .mv 89 (.t 0)⟩, ⟨none, .nck 90 (.t 89)⟩, ⟨none, .fa 91 2 (.t 90)⟩, ⟨none, .ld 92 false 1 (.t 91)⟩, ⟨none, .mv 93 (.t 11)⟩, ⟨none, .ia 94 3 (.t 92) (.t 93)⟩, ⟨none, .mv 95 (.t 1)⟩, ⟨none, .mv 96 (.t 2)⟩, ⟨none, .mv 97 (.t 3)⟩] [([(.ld 88 false 1 (.t 87))], ⟨none, .wcl (some 98) g [(.t 94), (.t 95), (.t 96), (.t 97)]⟩), ([(.ld 88 false 1 (.t 87))], ⟨none, .bs 99 3 (.ag [(.sc (.int .i64 0)), (.sc (.int .i64 0)), (.ls (some true) 3 [])]) 1 [(0, (.t 98))]⟩), ([(.ld 88 false 1 (.t 87))], ⟨none, .app 100 3 40 (.t 88) (.t 99)⟩), ([], ⟨none, .fa 101 2 (.t 10)⟩), ([], ⟨none, .st 1 (.t 101) (.t 100)⟩)])) (.reg false [⟨none, .mv 85 (.t 11)⟩, ⟨none, .bin 86 .add (.t 85) (.c (.sc (.int .i64 1)))⟩, ⟨none, .mv 11 (.t 86)⟩]))))))))) ((.seq (.reg false [⟨none, .ld 102 true 3 (.t 10)⟩, ⟨none, .st 3 (.t 8) (.t 102)⟩]) (.ret))))))))))))))))))
def K_l04Put (P : Program) (fno : Nat) : Prop := ∀ (ts qs : List Ex) (n1 n2 : Option Bool), small ts → small qs → ts.length ≤ 1048576 → qs.length ≤ 1048576 → ∀ e : Ex, treeE wide e = true → ∀ l : Int, l ≤ 1000000 → -1000000000 ≤ l - 1000 * sizeE e → AFW P fno [uI l] [.im none (.pt (eE e) 0), .im none (.ls n1 3 (ts.map eE)), .im none (.ls n2 3 (qs.map eE)), .pw 3000000000 0 0] [uI (putE ts qs e l).2] (.own (eE (putE ts qs e l).1))
theorem a_l04Put {P : Program} (hm : P.follows .mixedOrders = true) {g f1 f2 f3 : Nat} (hr : resF P g = some (103, k_l04Put g f1 f2 f3, [.c 8 3 true])) (hc1 : K_l02One P f1) (hc2 : K_l01Size P f2) (hc3 : K_l01Own P f3) : K_l04Put P g := by
  intro ts qs n1 n2 hts hqs ht hq e hT l hl hz0
  refine Ex.ind (p := fun e => treeE wide e = true → ∀ l : Int, l ≤ 1000000 → -1000000000 ≤ l - 1000 * sizeE e → AFW P g [uI l] [.im none (.pt (eE e) 0), .im none (.ls n1 3 (ts.map eE)), .im none (.ls n2 3 (qs.map eE)), .pw 3000000000 0 0] [uI (putE ts qs e l).2] (.own (eE (putE ts qs e l).1))) (fun k n nn ks ih hT l hl hz0 => ?_) e hT l hl hz0
  rw [treeE_mk, Bool.and_eq_true, List.all_eq_true] at hT
  rw [sizeE_mk] at hz0
  rw [eE_mk]
  have hw0 : IntKind.i64.wrap (l - 1) = l - 1 := wrap_i64 (by omega) (by omega)
  by_cases hl0 : l - 1 < 0
  · rw [putE_mk, if_pos hl0]
    refine afw_of_res (wv := .no) hr hm rfl rfl rfl fun hb ha => ?_
    simp +contextual -implicitDefEqProofs only [k_l04Put, uI, hw0, hl0, noE, eE_mk, isAg_ag, isAg_sc, atA0, List.map_cons, List.map_nil, List.length_cons, List.length_nil, D.cells, D.size, D.sizeL, modeOf, noPtrs, sub_ag, beq_self_eq_true, bne, Bool.not_false, Bool.and_true, Bool.and_false, Bool.or_true, Bool.or_false, go_sem, ↓reduceIte, Nat.reduceEqDiff, Nat.reduceAdd, Nat.reduceLeDiff, Nat.reduceBEq, Nat.reduceLT, Bool.false_eq_true, List.cons_append, List.nil_append]
  by_cases e3 : k = 3
  · subst e3
    obtain ⟨rfl, h1, h2⟩ := leaf3 hT.1
    obtain ⟨m, rfl⟩ : ∃ m : Nat, n = m := ⟨n.toNat, by omega⟩
    rw [putE_mk, if_neg hl0]
    simp only [Int.reduceEq, if_true, if_false, Int.toNat_natCast]
    by_cases hm' : m < ts.length
    · have hm2 : ¬ ((ts.length : Int) ≤ m) := by omega
      have e1 := at_map (f := eE) hm'
      have hz := hts _ (List.getElem_mem hm')
      have hp := sizeE_pos ts[m]
      rw [if_neg hm2, getD_of hm']
      refine afw_of_res (wv := .no) hr hm rfl rfl rfl fun hb ha => ?_
      simp +contextual -implicitDefEqProofs only [k_l04Put, uI, hw0, hl0, e1, hm', hm2, isAg_ag, isAg_sc, atA0, List.map_cons, List.map_nil, List.length_cons, List.length_nil, D.size, D.sizeL, modeOf, noPtrs, List.length_map, sub_ag, Int.reduceBEq, beq_self_eq_true, bne, Bool.not_false, Bool.and_true, go_sem, ↓reduceIte, Nat.reduceEqDiff, Nat.reduceAdd, Nat.reduceLeDiff, Nat.reduceBEq, Nat.reduceLT, Bool.false_eq_true, List.cons_append, List.nil_append, Int.ofNat_lt, Int.natCast_nonneg]
      have hw1 : IntKind.i64.wrap ((sizeE ts[m] : Int) - 1) = (sizeE ts[m] : Int) - 1 := wrap_i64 (by omega) (by omega)
      have hw2 : IntKind.i64.wrap (l - 1 - ((sizeE ts[m] : Int) - 1)) = l - 1 - ((sizeE ts[m] : Int) - 1) := wrap_i64 (by omega) (by omega)
      refine callQ_self (by rfl) (hc2 ts[m] (by omega)) ?_
      simp +contextual -implicitDefEqProofs only [hw1, hw2, e1, hm', isAg_ag, isAg_sc, atA0, List.map_cons, List.map_nil, List.length_cons, List.length_nil, D.size, D.sizeL, modeOf, noPtrs, List.length_map, eI, sub_ag, Bool.and_true, go_sem, ↓reduceIte, Nat.reduceEqDiff, Nat.reduceAdd, Nat.reduceLeDiff, Nat.reduceLT, Bool.false_eq_true, Int.ofNat_lt, Int.natCast_nonneg]
      refine callQ_self (by rfl) (hc3 ts[m] hz.1) ?_
      rw [eE_eta (cpE ts[m])]
      simp +contextual -implicitDefEqProofs only [isAg_ag, atA0, List.length_cons, List.length_nil, D.size, D.sizeL, modeOf, noPtrs, sub_ag, beq_self_eq_true, bne, Bool.not_false, Bool.true_and, Bool.and_true, Bool.and_false, go_sem, ↓reduceIte, Nat.reduceEqDiff, Nat.reduceAdd, Nat.reduceLeDiff, Nat.reduceBEq, Nat.reduceLT, Bool.false_eq_true, List.cons_append, List.nil_append]
    · have hm2 : ((ts.length : Int) ≤ m) := by omega
      rw [if_pos hm2]
      refine afw_of_res (wv := .no) hr hm rfl rfl rfl fun hb ha => ?_
      simp +contextual -implicitDefEqProofs only [k_l04Put, uI, hw0, hl0, hm2, isAg_ag, isAg_sc, atA0, List.map_nil, List.length_cons, List.length_nil, D.size, D.sizeL, modeOf, noPtrs, List.length_map, sub_ag, Int.reduceBEq, beq_self_eq_true, bne, Bool.not_false, Bool.and_true, go_sem, ↓reduceIte, Nat.reduceEqDiff, Nat.reduceAdd, Nat.reduceLeDiff, Nat.reduceBEq, Nat.reduceLT, Bool.false_eq_true, List.cons_append, List.nil_append]
      have h1 := hc1 ()
      simp only [eE_mk, List.map_nil] at h1 ⊢
      refine callQ_self (by rfl) h1 ?_
      simp +contextual -implicitDefEqProofs only [isAg_ag, atA0, List.length_cons, List.length_nil, D.size, D.sizeL, modeOf, noPtrs, sub_ag, beq_self_eq_true, bne, Bool.not_false, Bool.and_true, Bool.and_false, go_sem, ↓reduceIte, Nat.reduceEqDiff, Nat.reduceAdd, Nat.reduceLeDiff, Nat.reduceBEq, Nat.reduceLT, Bool.false_eq_true, List.cons_append, List.nil_append]
  by_cases e4 : k = 4
  · subst e4
    obtain ⟨rfl, h1, h2⟩ := leaf4 hT.1
    obtain ⟨m, rfl⟩ : ∃ m : Nat, n = m := ⟨n.toNat, by omega⟩
    rw [putE_mk, if_neg hl0]
    simp only [Int.reduceEq, if_true, if_false, Int.toNat_natCast]
    by_cases hm' : m < qs.length
    · have hm2 : ¬ ((qs.length : Int) ≤ m) := by omega
      have e1 := at_map (f := eE) hm'
      have hz := hqs _ (List.getElem_mem hm')
      have hp := sizeE_pos qs[m]
      rw [if_neg hm2, getD_of hm']
      refine afw_of_res (wv := .no) hr hm rfl rfl rfl fun hb ha => ?_
      simp +contextual -implicitDefEqProofs only [k_l04Put, uI, hw0, hl0, e1, hm', hm2, isAg_ag, isAg_sc, atA0, List.map_cons, List.map_nil, List.length_cons, List.length_nil, D.size, D.sizeL, modeOf, noPtrs, List.length_map, sub_ag, Int.reduceBEq, beq_self_eq_true, bne, Bool.not_false, Bool.and_true, go_sem, ↓reduceIte, Nat.reduceEqDiff, Nat.reduceAdd, Nat.reduceLeDiff, Nat.reduceBEq, Nat.reduceLT, Bool.false_eq_true, List.cons_append, List.nil_append, Int.ofNat_lt, Int.natCast_nonneg]
      have hw1 : IntKind.i64.wrap ((sizeE qs[m] : Int) - 1) = (sizeE qs[m] : Int) - 1 := wrap_i64 (by omega) (by omega)
      have hw2 : IntKind.i64.wrap (l - 1 - ((sizeE qs[m] : Int) - 1)) = l - 1 - ((sizeE qs[m] : Int) - 1) := wrap_i64 (by omega) (by omega)
      refine callQ_self (by rfl) (hc2 qs[m] (by omega)) ?_
      simp +contextual -implicitDefEqProofs only [hw1, hw2, e1, hm', isAg_ag, isAg_sc, atA0, List.map_cons, List.map_nil, List.length_cons, List.length_nil, D.size, D.sizeL, modeOf, noPtrs, List.length_map, eI, sub_ag, Bool.and_true, go_sem, ↓reduceIte, Nat.reduceEqDiff, Nat.reduceAdd, Nat.reduceLeDiff, Nat.reduceLT, Bool.false_eq_true, Int.ofNat_lt, Int.natCast_nonneg]
      refine callQ_self (by rfl) (hc3 qs[m] hz.1) ?_
      rw [eE_eta (cpE qs[m])]
      simp +contextual -implicitDefEqProofs only [isAg_ag, atA0, List.length_cons, List.length_nil, D.size, D.sizeL, modeOf, noPtrs, sub_ag, beq_self_eq_true, bne, Bool.not_false, Bool.true_and, Bool.and_true, Bool.and_false, go_sem, ↓reduceIte, Nat.reduceEqDiff, Nat.reduceAdd, Nat.reduceLeDiff, Nat.reduceBEq, Nat.reduceLT, Bool.false_eq_true, List.cons_append, List.nil_append]
    · have hm2 : ((qs.length : Int) ≤ m) := by omega
      rw [if_pos hm2]
      refine afw_of_res (wv := .no) hr hm rfl rfl rfl fun hb ha => ?_
      simp +contextual -implicitDefEqProofs only [k_l04Put, uI, hw0, hl0, hm2, isAg_ag, isAg_sc, atA0, List.map_nil, List.length_cons, List.length_nil, D.size, D.sizeL, modeOf, noPtrs, List.length_map, sub_ag, Int.reduceBEq, beq_self_eq_true, bne, Bool.not_false, Bool.and_true, go_sem, ↓reduceIte, Nat.reduceEqDiff, Nat.reduceAdd, Nat.reduceLeDiff, Nat.reduceBEq, Nat.reduceLT, Bool.false_eq_true, List.cons_append, List.nil_append]
      have h1 := hc1 ()
      simp only [eE_mk, List.map_nil] at h1 ⊢
      refine callQ_self (by rfl) h1 ?_
      simp +contextual -implicitDefEqProofs only [isAg_ag, atA0, List.length_cons, List.length_nil, D.size, D.sizeL, modeOf, noPtrs, sub_ag, beq_self_eq_true, bne, Bool.not_false, Bool.and_true, Bool.and_false, go_sem, ↓reduceIte, Nat.reduceEqDiff, Nat.reduceAdd, Nat.reduceLeDiff, Nat.reduceBEq, Nat.reduceLT, Bool.false_eq_true, List.cons_append, List.nil_append]
  have e3' : (k == 3) = false := by simp [e3]
  have e4' : (k == 4) = false := by simp [e4]
  rw [putE_mk, if_neg hl0, if_neg e3, if_neg e4]
  refine afw_of_res (wv := .no) hr hm rfl rfl rfl fun hb ha => ?_
  have hl1 : ks.length ≤ 9223372036854775807 := by
    have := ha.1
    simp only [bdA, D.bd, D.bdL, List.length_map, maxEl] at this
    exact this.2.2.1.1
  simp +contextual -implicitDefEqProofs only [k_l04Put, uI, hw0, hl0, e3', e4', isAg_ag, isAg_sc, atA0, List.map_cons, List.map_nil, List.length_cons, List.length_nil, D.cells, D.size, D.sizeL, modeOf, noPtrs, sub_ag, beq_self_eq_true, bne, Bool.not_false, Bool.and_true, Bool.or_true, Bool.or_false, go_sem, ↓reduceIte, Nat.reduceEqDiff, Nat.reduceAdd, Nat.reduceLeDiff, Nat.reduceBEq, Nat.reduceLT, Nat.reduceSub, Bool.false_eq_true, List.cons_append, List.nil_append]
  refine vc_onU (α := Nat) [11, 78, 79, 80, 81, 82, 83, 84, 85, 86, 87, 88, 89, 90, 91, 92, 93, 94, 95, 96, 97, 98, 99, 100, 101] (fun i => [(11, .im none (.sc (.int .i64 i)))]) (fun i => [(10, .ar true (some false) 3 [.ag [.sc (.int .i64 k), .sc (.int .i64 n), .ls (nnL (ks.take i)) 3 ((putEs ts qs (ks.take i) (l - 1)).1.map eE)]]), (8, .ar true (some false) 3 [.ag [.sc (.int .i64 0), .sc (.int .i64 0), .ls (some true) 3 []]]), (3000000000, uI (putEs ts qs (ks.take i) (l - 1)).2)]) (fun i => i ≤ ks.length) (fun i => ks.length - i) 0 (Ent.to [] (by simp only [go_sem]; rfl) rfl (by simp [nnL, putEs, uI]) (by rfl) (by simp only [subEnv, go_sem, ↓reduceIte, Nat.reduceEqDiff, keep, memN, Bool.false_eq_true] <;> simp)) (Nat.zero_le _) ?_
  intro i hi0
  have hin := putEs_in (ts := ts) (qs := qs) (ks := ks.take i) (l := l - 1) fun e he => putE_in hts hqs e (hT.2 e (List.mem_of_mem_take he))
  have hst := sizeEs_take (l := ks) (i := i)
  by_cases hi : i < ks.length
  · have e1 := at_map (f := eE) hi
    have hs := putEs_succ (ts := ts) (qs := qs) hi (x := l - 1)
    have hlen := putEs_len (ts := ts) (qs := qs) (a := ks.take i) (l := l - 1)
    have hz1 := sizeEs_succ hi
    have hz2 := sizeEs_take (l := ks) (i := i + 1)
    have hz3 := @len_sizeEs ks
    have hc := ih ks[i] (List.getElem_mem _) (hT.2 _ (List.getElem_mem _)) (putEs ts qs (ks.take i) (l - 1)).2 (by omega) (by omega)
    generalize putEs ts qs (ks.take i) (l - 1) = st at *
    obtain ⟨sl, sv⟩ := st
    simp only at *
    simp +contextual -implicitDefEqProofs only [uI, e1, hi, Int.ofNat_lt, List.length_map, Int.natCast_nonneg, Nat.zero_lt_one, isAg_ag, atA0, List.map_cons, List.map_nil, D.size, D.sizeL, sub_ag, go_sem, ↓reduceIte, Nat.reduceEqDiff, Nat.reduceAdd, Nat.reduceLeDiff, Nat.reduceLT, Bool.false_eq_true, List.cons_append, List.nil_append]
    refine wcl_self [3000000000] [] (by rfl) (by rfl) (by rfl) hc rfl (by simp [wOut, outU, uI]) ?_
    simp +contextual -implicitDefEqProofs only [uI, eE_size, List.length_map, Nat.zero_lt_one, isAg_ag, atA0, List.map_cons, List.map_nil, List.length_cons, List.length_nil, D.cells, D.size, modeOf, noPtrs, sub_ag, beq_self_eq_true, bne, Bool.not_false, Bool.false_and, Bool.and_true, Bool.true_or, Bool.or_true, Bool.or_false, go_sem, ↓reduceIte, Nat.reduceEqDiff, Nat.reduceAdd, Nat.reduceLeDiff, Nat.reduceMul, Nat.reduceBEq, Nat.reduceLT, Bool.false_eq_true, List.cons_append, List.nil_append]
    have hl2 : sl.length = i := by rw [hlen]; simp; omega
    refine ⟨rfl, ⟨by omega, by unfold maxEl; omega, by simp [eE_size]⟩, i + 1, by omega, by omega, ?_⟩
    rw [wrap_i64 (by omega) (by omega)]
    exact Ent.to [] (by simp only [go_sem]; rfl) rfl (by simp [hs, nnL_take hi, List.map_append]) (by rfl) (by simp only [subEnv, go_sem, ↓reduceIte, Nat.reduceEqDiff] <;> simp)
  · simp +contextual -implicitDefEqProofs only [hi, uI, isAg_ag, atA0, List.length_cons, List.length_nil, D.size, D.sizeL, modeOf, noPtrs, List.length_map, sub_ag, beq_self_eq_true, Bool.true_and, Bool.and_true, Bool.and_false, Bool.or_false, go_sem, ↓reduceIte, Nat.reduceEqDiff, Nat.reduceAdd, Nat.reduceLeDiff, Nat.reduceBEq, Nat.reduceLT, Bool.false_eq_true, List.cons_append, List.nil_append, Int.ofNat_lt]
    rw [List.take_of_length_le (by omega), eE_mk]
    exact ⟨D.Le.refl _, rfl⟩
def lsubR (g : Int × Int) (ts qs : List Ex) (e : Ex) : Ex × Bool := ((putE ts qs e 200).1, decide ((putE ts qs e 200).2 ≥ 0) && (okG g && okE g (putE ts qs e 200).1))

def k_l04Sub (f1 f2 : Nat) : RC := (.seq (.reg false [⟨none, .box 4 2 (.t 0)⟩, ⟨none, .zer 8 3 (.ag [(.sc (.int .i64 0)), (.sc (.int .i64 0)), (.ls (some true) 3 [])])⟩, ⟨none, .mv 9 (.c (.sc (.bool false)))⟩]) ((.seq (.reg false [⟨none, .zer 10 1 (.sc (.int .i64 0))⟩, ⟨none, .st 1 (.t 10) (.c (.sc (.int .i64 200)))⟩]) ((.seq (.reg false [⟨none, .mv 12 (.t 1)⟩, ⟨none, .mv 13 (.t 2)⟩, ⟨none, .mv 14 (.t 3)⟩, ⟨none, .wcl (some 15) f1 [(.t 12), (.t 13), (.t 14), (.t 10)]⟩, ⟨none, .zer 11 3 (.ag [(.sc (.int .i64 0)), (.sc (.int .i64 0)), (.ls (some true) 3 [])])⟩, ⟨none, .st 3 (.t 11) (.t 15)⟩]) ((.seq (.reg true [⟨none, .ld 16 true 3 (.t 11)⟩, ⟨none, .ld 17 false 1 (.t 10)⟩, ⟨none, .bin 18 .geq (.t 17) (.c (.sc (.int .i64 0)))⟩, ⟨none, .mv 19 (.t 18)⟩, ⟨some (19, true), .ld 20 true 2 (.t 4)⟩, ⟨some (19, true), .call (some 21) f2 [(.t 20), (.t 11)]⟩, ⟨none, .pick 22 (.t 19) (.t 21) (.c (.sc (.bool false)))⟩, ⟨none, .st 3 (.t 8) (.t 16)⟩, ⟨none, .mv 9 (.t 22)⟩]) (.ret))))))))
def K_l04Sub (P : Program) (fno : Nat) : Prop := ∀ (g : Int × Int) (ts qs : List Ex) (n1 n2 : Option Bool) (hts : small ts) (hqs : small qs) (ht : ts.length ≤ 1048576) (hq : qs.length ≤ 1048576) (e : Ex) (hT : treeE wide e = true) (hz : sizeE e ≤ 200), AF P fno [eG g, .pt (eE e) 0, .ls n1 3 (ts.map eE), .ls n2 3 (qs.map eE)] (.tup ([.own (eE (lsubR g ts qs e).1), .own (eB (lsubR g ts qs e).2)]))
theorem a_l04Sub {P : Program} (hm : P.follows .mixedOrders = true) {g f1 f2 : Nat} (hr : resF P g = some (23, k_l04Sub f1 f2, [.c 8 3 true, .t 9])) (hc1 : K_l04Put P f1) (hc2 : K_l01Ok P f2) : K_l04Sub P g := by
  intro g ts qs n1 n2 hts hqs ht hq e hT hz
  have hM := hc1 ts qs n1 n2 hts hqs ht hq e hT 200 (by omega) (by omega)
  have hV := hc2 g (putE ts qs e 200).1
  unfold lsubR
  generalize putE ts qs e 200 = r at hM hV ⊢
  obtain ⟨re, rv⟩ := r
  obtain ⟨k, n, nn, ks, rfl⟩ := Ex.ex e
  obtain ⟨rk, rn, rnn, rks, rfl⟩ := Ex.ex re
  simp only [eE_mk] at hM hV ⊢
  refine af_of_res hr hm rfl fun hb => ?_
  simp +contextual -implicitDefEqProofs only [k_l04Sub, isAg_sc, atA0, List.map_cons, List.map_nil, List.length_cons, List.length_nil, D.size, D.sizeL, modeOf, noPtrs, eI, eB, eG, beq_self_eq_true, bne, Bool.not_false, Bool.and_true, go_sem, ↓reduceIte, Nat.reduceEqDiff, Nat.reduceAdd, Nat.reduceLeDiff, Nat.reduceBEq, Nat.reduceLT, Bool.false_eq_true, List.cons_append, List.nil_append]
  refine wcl_self [10] [] (by rfl) (by rfl) (by rfl) hM rfl (by simp [wOut, outU, uI]) ?_
  cases hg : decide (rv ≥ 0)
  · have hg' : ¬ rv ≥ 0 := by simpa using hg
    simp +contextual -implicitDefEqProofs only [uI, hg', isAg_ag, isAg_sc, atA0, List.length_cons, List.length_nil, D.size, D.sizeL, modeOf, noPtrs, sub_ag, beq_self_eq_true, bne, Bool.not_false, Bool.true_and, Bool.false_and, Bool.and_true, Bool.and_false, Bool.or_false, go_sem, ↓reduceIte, Nat.reduceEqDiff, Nat.reduceAdd, Nat.reduceLeDiff, Nat.reduceBEq, Nat.reduceLT, Bool.false_eq_true, List.cons_append, List.nil_append]
  · have hg' : rv ≥ 0 := by simpa using hg
    simp +contextual -implicitDefEqProofs only [uI, hg', isAg_ag, isAg_sc, atA0, List.map_cons, List.map_nil, List.length_cons, List.length_nil, D.size, D.sizeL, modeOf, noPtrs, sub_ag, beq_self_eq_true, bne, Bool.not_false, Bool.true_and, Bool.and_true, Bool.and_false, Bool.or_false, go_sem, ↓reduceIte, Nat.reduceEqDiff, Nat.reduceAdd, Nat.reduceLeDiff, Nat.reduceBEq, Nat.reduceLT, Bool.false_eq_true, List.cons_append, List.nil_append]
    refine callQ_self (by rfl) hV ?_
    simp +contextual -implicitDefEqProofs only [isAg_ag, atA0, List.length_cons, List.length_nil, D.size, D.sizeL, modeOf, noPtrs, eB, sub_ag, beq_self_eq_true, Bool.true_and, Bool.and_true, Bool.and_false, go_sem, ↓reduceIte, Nat.reduceEqDiff, Nat.reduceAdd, Nat.reduceLeDiff, Nat.reduceLT, Bool.false_eq_true]
def substR (g : Int × Int) (e : Ex) (ts qs : List Ex) : Ex × Int :=
  if okG g = false then (noE, 1) else if okE wide e = false then (noE, 1) else if ts.all (okE g) = false then (noE, 1) else if qs.all (okE g) = false then (noE, 1)
  else if ts.all condE = false then (noE, 4) else if topE 3 e > ts.length then (noE, 2) else if topE 4 e > qs.length then (noE, 2) else insR g ts qs e
theorem lsub_insR {g : Int × Int} {ts qs : List Ex} {e : Ex} (hG : okG g = true) (hT : treeE wide e = true) (h3 : ¬ topE 3 e > ts.length) (h4 : ¬ topE 4 e > qs.length) : if (lsubR g ts qs e).2 = true then insR g ts qs e = ((lsubR g ts qs e).1, 0) else insR g ts qs e = (noE, 3) := by
  have h := putE_sub (ts := ts) (qs := qs) e hT (by omega) (by omega) 200
  unfold lsubR insR
  by_cases hs : (sizeE (subE ts qs e) : Int) ≤ 200
  · rw [h.1 hs]
    have : decide ((200 : Int) - sizeE (subE ts qs e) ≥ 0) = true := decide_eq_true (by omega)
    simp only [this, hG, Bool.true_and]
    split
    · rfl
    · rfl
  · have h2 := h.2 (by omega)
    have : decide ((putE ts qs e 200).2 ≥ 0) = false := decide_eq_false (by omega)
    simp only [this, Bool.false_and, Bool.false_eq_true, if_false]
    rw [if_neg]
    simp only [okE, Bool.and_eq_true, decide_eq_true_eq, not_and]
    omega
theorem all_G {g : Int × Int} (h : okG g = true) {l : List Ex} : (l.all fun e => okG g && okE g e) = l.all (okE g) := by
  simp [h]

def k_imSubstitute (f1 f2 f3 f4 f5 f6 f7 : Nat) : RC := (.seq (.reg false [⟨none, .box 4 2 (.t 0)⟩, ⟨none, .box 5 3 (.t 1)⟩, ⟨none, .zer 8 3 (.ag [(.sc (.int .i64 0)), (.sc (.int .i64 0)), (.ls (some true) 3 [])])⟩, ⟨none, .mv 9 (.c (.sc (.int .i64 0)))⟩]) ((.seq ((.seq (.reg true [⟨none, .ld 12 true 2 (.t 4)⟩, ⟨none, .call (some 13) f1 [(.t 12)]⟩, ⟨none, .un 14 .not (.t 13)⟩, ⟨none, .mv 15 (.t 14)⟩, ⟨some (15, false), .call (some 16) f2 []⟩, ⟨some (15, false), .ld 17 true 3 (.t 5)⟩, ⟨some (15, false), .call (some 18) f3 [(.t 16), (.t 17)]⟩, ⟨some (15, false), .un 19 .not (.t 18)⟩, ⟨none, .pick 20 (.t 15) (.c (.sc (.bool true))) (.t 19)⟩, ⟨none, .mv 21 (.t 20)⟩, ⟨some (21, false), .ld 22 true 2 (.t 4)⟩, ⟨some (21, false), .mv 23 (.t 2)⟩, ⟨some (21, false), .call (some 24) f4 [(.t 22), (.t 23)]⟩, ⟨some (21, false), .un 25 .not (.t 24)⟩, ⟨none, .pick 26 (.t 21) (.c (.sc (.bool true))) (.t 25)⟩, ⟨none, .mv 27 (.t 26)⟩, ⟨some (27, false), .ld 28 true 2 (.t 4)⟩, ⟨some (27, false), .mv 29 (.t 3)⟩, ⟨some (27, false), .call (some 30) f4 [(.t 28), (.t 29)]⟩, ⟨some (27, false), .un 31 .not (.t 30)⟩, ⟨none, .pick 32 (.t 27) (.c (.sc (.bool true))) (.t 31)⟩]) (.cond (.t 32) ((.seq (.reg false [⟨none, .bld 33 (.ag [(.sc (.int .i64 0)), (.sc (.int .i64 0)), (.ls (some true) 3 [])]) []⟩, ⟨none, .st 3 (.t 8) (.t 33)⟩, ⟨none, .mv 9 (.c (.sc (.int .i64 1)))⟩]) (.ret))) (.skip)))) ((.seq ((.seq (.reg false [⟨none, .mv 34 (.t 2)⟩, ⟨none, .call (some 35) f5 [(.t 34)]⟩, ⟨none, .un 36 .not (.t 35)⟩]) (.cond (.t 36) ((.seq (.reg false [⟨none, .bld 37 (.ag [(.sc (.int .i64 0)), (.sc (.int .i64 0)), (.ls (some true) 3 [])]) []⟩, ⟨none, .st 3 (.t 8) (.t 37)⟩, ⟨none, .mv 9 (.c (.sc (.int .i64 4)))⟩]) (.ret))) (.skip)))) ((.seq (.reg false [⟨none, .ld 39 true 3 (.t 5)⟩, ⟨none, .call (some 40) f6 [(.t 39)]⟩, ⟨none, .mv 38 (.t 40)⟩, ⟨none, .ext 41 (.t 38) 0⟩, ⟨none, .ext 42 (.t 38) 1⟩, ⟨none, .mv 10 (.t 41)⟩, ⟨none, .mv 11 (.t 42)⟩]) ((.seq ((.seq (.reg false [⟨none, .mv 43 (.t 10)⟩, ⟨none, .mv 44 (.t 2)⟩, ⟨none, .len 45 (.t 44)⟩, ⟨none, .bin 46 .gtr (.t 43) (.t 45)⟩, ⟨none, .mv 47 (.t 46)⟩, ⟨some (47, false), .mv 48 (.t 11)⟩, ⟨some (47, false), .mv 49 (.t 3)⟩, ⟨some (47, false), .len 50 (.t 49)⟩, ⟨some (47, false), .bin 51 .gtr (.t 48) (.t 50)⟩, ⟨none, .pick 52 (.t 47) (.c (.sc (.bool true))) (.t 51)⟩]) (.cond (.t 52) ((.seq (.reg false [⟨none, .bld 53 (.ag [(.sc (.int .i64 0)), (.sc (.int .i64 0)), (.ls (some true) 3 [])]) []⟩, ⟨none, .st 3 (.t 8) (.t 53)⟩, ⟨none, .mv 9 (.c (.sc (.int .i64 2)))⟩]) (.ret))) (.skip)))) ((.seq (.reg false [⟨none, .ld 54 true 2 (.t 4)⟩, ⟨none, .ld 55 true 3 (.t 5)⟩, ⟨none, .mv 56 (.t 2)⟩, ⟨none, .mv 57 (.t 3)⟩, ⟨none, .call (some 58) f7 [(.t 54), (.t 55), (.t 56), (.t 57)]⟩, ⟨none, .ext 59 (.t 58) 0⟩, ⟨none, .ext 60 (.t 58) 1⟩, ⟨none, .st 3 (.t 8) (.t 59)⟩, ⟨none, .mv 9 (.t 60)⟩]) (.ret))))))))))))
def K_imSubstitute (P : Program) (fno : Nat) : Prop := ∀ (g : Int × Int) (e : Ex) (ts qs : List Ex) (n1 n2 : Option Bool) (hf : fitE e) (hts0 : ∀ t ∈ ts, fitE t) (hqs0 : ∀ t ∈ qs, fitE t) (ht : ts.length ≤ 1048576) (hq : qs.length ≤ 1048576), AF P fno [eG g, eE e, .ls n1 3 (ts.map eE), .ls n2 3 (qs.map eE)] (.tup ([.own (eE (substR g e ts qs).1), .own (eI (substR g e ts qs).2)]))
theorem a_imSubstitute {P : Program} (hm : P.follows .mixedOrders = true) {g f1 f2 f3 f4 f5 f6 f7 : Nat} (hr : resF P g = some (61, k_imSubstitute f1 f2 f3 f4 f5 f6 f7, [.c 8 3 true, .t 9])) (hc1 : K_validSig P f1) (hc2 : K_patternSig P f2) (hc3 : K_isExpr P f3) (hc4 : K_validExprs P f4) (hc5 : K_areConditions P f5) (hc6 : K_full P f6) (hc7 : K_instance P f7) : K_imSubstitute P g := by
  intro g e ts qs n1 n2 hf hts0 hqs0 ht hq
  obtain ⟨k, n, nn, ks, rfl⟩ := Ex.ex e
  have hE_ := hc3 wide (Ex.mk k n nn ks)
  have hA1 := hc4 g (n1, ts)
  have hA2 := hc4 g (n2, qs)
  have hC := hc5 (n1, ts)
  simp only [eE_mk, eS] at hE_ hA1 hA2 hC ⊢
  refine af_of_res hr hm rfl fun hb => ?_
  simp +contextual -implicitDefEqProofs only [k_imSubstitute, isAg_ag, atA0, List.map_cons, List.map_nil, D.size, D.sizeL, eI, eG, sub_ag, beq_self_eq_true, bne, Bool.not_false, Bool.and_true, go_sem, ↓reduceIte, Nat.reduceEqDiff, Nat.reduceAdd, Nat.reduceLeDiff, Nat.reduceBEq, Nat.reduceLT, Bool.false_eq_true, List.cons_append, List.nil_append]
  refine callQ_self (ds := [eG g]) (by rfl) (hc1 g) ?_
  cases hG : okG g
  · rw [show substR g (.mk k n nn ks) ts qs = (noE, 1) by simp only [substR, hG, if_true]]
    simp +contextual -implicitDefEqProofs only [noE, eE_mk, isAg_ag, atA0, List.map_cons, List.map_nil, List.length_cons, List.length_nil, D.cells, D.size, D.sizeL, modeOf, noPtrs, eB, sub_ag, beq_self_eq_true, bne, Bool.not_false, Bool.and_true, Bool.and_false, Bool.or_true, Bool.or_false, go_sem, ↓reduceIte, Nat.reduceEqDiff, Nat.reduceAdd, Nat.reduceLeDiff, Nat.reduceBEq, Nat.reduceLT, Bool.false_eq_true, List.cons_append, List.nil_append]
  simp +contextual -implicitDefEqProofs only [List.map_nil, eB, Bool.not_true, go_sem, ↓reduceIte]
  refine callQ_self (by rfl) (hc2 ()) ?_
  simp +contextual -implicitDefEqProofs only [isAg_ag, atA0, List.map_cons, List.map_nil, eI, eG, sub_ag, Bool.and_true, go_sem, ↓reduceIte, Nat.reduceEqDiff, Nat.reduceLeDiff, Bool.false_eq_true]
  refine callQ_self (by rfl) (hE_) ?_
  cases hE : okE wide (Ex.mk k n nn ks)
  · rw [show substR g (.mk k n nn ks) ts qs = (noE, 1) by simp only [substR, hG, hE, Bool.true_eq_false, if_true, if_false]]
    simp +contextual -implicitDefEqProofs only [noE, eE_mk, isAg_ag, atA0, List.map_cons, List.map_nil, List.length_cons, List.length_nil, D.cells, D.size, D.sizeL, modeOf, noPtrs, eB, sub_ag, beq_self_eq_true, bne, Bool.not_false, Bool.and_true, Bool.and_false, Bool.or_true, Bool.or_false, go_sem, ↓reduceIte, Nat.reduceEqDiff, Nat.reduceAdd, Nat.reduceLeDiff, Nat.reduceBEq, Nat.reduceLT, Bool.false_eq_true, List.cons_append, List.nil_append]
  simp +contextual -implicitDefEqProofs only [isAg_ag, atA0, List.map_cons, List.map_nil, eB, sub_ag, Bool.not_true, go_sem, ↓reduceIte, Nat.reduceEqDiff, Nat.reduceLeDiff, Bool.false_eq_true]
  rw [hG, Bool.true_and] at hA1 hA2
  refine callQ_self (by rfl) (hA1) ?_
  cases h1 : ts.all (okE g)
  · rw [show substR g (.mk k n nn ks) ts qs = (noE, 1) by simp only [substR, hG, hE, h1, Bool.true_eq_false, if_true, if_false]]
    simp +contextual -implicitDefEqProofs only [noE, eE_mk, isAg_ag, atA0, List.map_cons, List.map_nil, List.length_cons, List.length_nil, D.cells, D.size, D.sizeL, modeOf, noPtrs, eB, sub_ag, beq_self_eq_true, bne, Bool.not_false, Bool.and_true, Bool.and_false, Bool.or_true, Bool.or_false, go_sem, ↓reduceIte, Nat.reduceEqDiff, Nat.reduceAdd, Nat.reduceLeDiff, Nat.reduceBEq, Nat.reduceLT, Bool.false_eq_true, List.cons_append, List.nil_append]
  simp +contextual -implicitDefEqProofs only [isAg_ag, atA0, List.map_cons, List.map_nil, eB, sub_ag, Bool.not_true, go_sem, ↓reduceIte, Nat.reduceEqDiff, Nat.reduceLeDiff, Bool.false_eq_true]
  refine callQ_self (by rfl) (hA2) ?_
  cases h2 : qs.all (okE g)
  · rw [show substR g (.mk k n nn ks) ts qs = (noE, 1) by simp only [substR, hG, hE, h1, h2, Bool.true_eq_false, if_true, if_false]]
    simp +contextual -implicitDefEqProofs only [noE, eE_mk, isAg_ag, atA0, List.map_cons, List.map_nil, List.length_cons, List.length_nil, D.cells, D.size, D.sizeL, modeOf, noPtrs, eB, sub_ag, beq_self_eq_true, bne, Bool.not_false, Bool.and_true, Bool.and_false, Bool.or_true, Bool.or_false, go_sem, ↓reduceIte, Nat.reduceEqDiff, Nat.reduceAdd, Nat.reduceLeDiff, Nat.reduceBEq, Nat.reduceLT, Bool.false_eq_true, List.cons_append, List.nil_append]
  simp +contextual -implicitDefEqProofs only [List.map_cons, List.map_nil, eB, Bool.not_true, go_sem, ↓reduceIte, Nat.reduceEqDiff]
  have hok := hE
  simp only [okE, Bool.and_eq_true, decide_eq_true_eq] at hok
  have hT := hok.2.2
  have hsm : ∀ {l : List Ex}, (∀ t ∈ l, fitE t) → l.all (okE g) = true → small l := fun h0 h t ht => ⟨h0 t ht, by
    have := List.all_eq_true.1 h t ht
    simp only [okE, Bool.and_eq_true, decide_eq_true_eq] at this
    exact this.1⟩
  have hts := hsm hts0 h1
  have hqs := hsm hqs0 h2
  refine callQ_self (by rfl) (hC) ?_
  cases h5 : ts.all condE
  · rw [show substR g (.mk k n nn ks) ts qs = (noE, 4) by simp only [substR, hG, hE, h1, h2, h5, Bool.true_eq_false, if_true, if_false]]
    simp +contextual -implicitDefEqProofs only [noE, eE_mk, isAg_ag, atA0, List.map_cons, List.map_nil, List.length_cons, List.length_nil, D.cells, D.size, D.sizeL, modeOf, noPtrs, eB, sub_ag, beq_self_eq_true, bne, Bool.not_false, Bool.and_true, Bool.and_false, Bool.or_true, Bool.or_false, go_sem, ↓reduceIte, Nat.reduceEqDiff, Nat.reduceAdd, Nat.reduceLeDiff, Nat.reduceBEq, Nat.reduceLT, Bool.false_eq_true, List.cons_append, List.nil_append]
  simp +contextual -implicitDefEqProofs only [isAg_ag, atA0, List.map_cons, List.map_nil, eB, sub_ag, Bool.not_true, go_sem, ↓reduceIte, Nat.reduceEqDiff, Nat.reduceLeDiff, Bool.false_eq_true]
  have hFu := hc6 (Ex.mk k n nn ks) hT
  rw [eE_mk] at hFu
  refine callQ_self (by rfl) hFu ?_
  simp +contextual -implicitDefEqProofs only [isAg_ag, atA0, List.map_cons, List.map_nil, List.length_cons, List.length_nil, D.cells, D.size, D.sizeL, modeOf, noPtrs, List.length_map, eI, sub_ag, beq_self_eq_true, bne, Bool.not_false, Bool.and_true, Bool.and_false, Bool.or_true, Bool.or_false, go_sem, ↓reduceIte, Nat.reduceEqDiff, Nat.reduceAdd, Nat.reduceLeDiff, Nat.reduceBEq, Nat.reduceLT, Bool.false_eq_true, List.cons_append, List.nil_append]
  refine ⟨fun t3 => ⟨fun t4 => ?_, fun t4 => ?_⟩, fun t3 => ?_⟩
  · rw [show substR g (.mk k n nn ks) ts qs = (noE, 2) by simp only [substR, hG, hE, h1, h2, h5, Bool.true_eq_false, if_false, if_neg t3, if_pos t4], noE, eE_mk]
    exact ⟨D.Le.refl _, D.Le.refl _⟩
  · have hI := hc7 g ts qs n1 n2 ht hq hts0 hqs0 (Ex.mk k n nn ks) hf hT (by omega) (by omega)
    rw [show substR g (.mk k n nn ks) ts qs = insR g ts qs (Ex.mk k n nn ks) by simp only [substR, hG, hE, h1, h2, h5, Bool.true_eq_false, if_false, if_neg t3, if_neg t4]]
    generalize insR g ts qs (Ex.mk k n nn ks) = r at hI ⊢
    obtain ⟨re, rc⟩ := r
    obtain ⟨rk, rn, rnn, rks, rfl⟩ := Ex.ex re
    simp only [eE_mk] at hI ⊢
    refine callQ_self (by rfl) hI ?_
    simp +contextual -implicitDefEqProofs only [isAg_ag, atA0, List.map_cons, List.map_nil, List.length_cons, List.length_nil, D.size, D.sizeL, modeOf, noPtrs, eI, sub_ag, beq_self_eq_true, bne, Bool.not_false, Bool.true_and, Bool.and_true, Bool.and_false, Bool.or_false, go_sem, ↓reduceIte, Nat.reduceEqDiff, Nat.reduceAdd, Nat.reduceLeDiff, Nat.reduceBEq, Nat.reduceLT, Bool.false_eq_true, List.cons_append, List.nil_append]
  · rw [show substR g (.mk k n nn ks) ts qs = (noE, 2) by simp only [substR, hG, hE, h1, h2, h5, Bool.true_eq_false, if_false, if_pos t3], noE, eE_mk]
    exact ⟨D.Le.refl _, D.Le.refl _⟩

def k_spSubstitute (f1 f2 f3 f4 f5 f6 f7 f8 : Nat) : RC := (.seq (.reg false [⟨none, .box 4 2 (.t 0)⟩, ⟨none, .box 5 3 (.t 1)⟩, ⟨none, .zer 8 3 (.ag [(.sc (.int .i64 0)), (.sc (.int .i64 0)), (.ls (some true) 3 [])])⟩, ⟨none, .mv 9 (.c (.sc (.int .i64 0)))⟩]) ((.seq ((.seq (.reg false [⟨none, .ld 14 true 2 (.t 4)⟩, ⟨none, .call (some 15) f1 [(.t 14)]⟩, ⟨none, .un 16 .not (.t 15)⟩, ⟨none, .mv 17 (.t 16)⟩, ⟨some (17, false), .call (some 18) f2 []⟩, ⟨some (17, false), .call (some 19) f3 [(.t 18), (.t 5)]⟩, ⟨some (17, false), .un 20 .not (.t 19)⟩, ⟨none, .pick 21 (.t 17) (.c (.sc (.bool true))) (.t 20)⟩, ⟨none, .mv 22 (.t 21)⟩, ⟨some (22, false), .ld 23 true 2 (.t 4)⟩, ⟨some (22, false), .mv 24 (.t 2)⟩, ⟨some (22, false), .call (some 25) f4 [(.t 23), (.t 24)]⟩, ⟨some (22, false), .un 26 .not (.t 25)⟩, ⟨none, .pick 27 (.t 22) (.c (.sc (.bool true))) (.t 26)⟩, ⟨none, .mv 28 (.t 27)⟩, ⟨some (28, false), .ld 29 true 2 (.t 4)⟩, ⟨some (28, false), .mv 30 (.t 3)⟩, ⟨some (28, false), .call (some 31) f4 [(.t 29), (.t 30)]⟩, ⟨some (28, false), .un 32 .not (.t 31)⟩, ⟨none, .pick 33 (.t 28) (.c (.sc (.bool true))) (.t 32)⟩]) (.cond (.t 33) ((.seq (.reg false [⟨none, .bld 34 (.ag [(.sc (.int .i64 0)), (.sc (.int .i64 0)), (.ls (some true) 3 [])]) []⟩, ⟨none, .st 3 (.t 8) (.t 34)⟩, ⟨none, .mv 9 (.c (.sc (.int .i64 1)))⟩]) (.ret))) (.skip)))) ((.seq ((.seq (.reg false [⟨none, .mv 35 (.t 2)⟩, ⟨none, .call (some 36) f5 [(.t 35)]⟩, ⟨none, .un 37 .not (.t 36)⟩]) (.cond (.t 37) ((.seq (.reg false [⟨none, .bld 38 (.ag [(.sc (.int .i64 0)), (.sc (.int .i64 0)), (.ls (some true) 3 [])]) []⟩, ⟨none, .st 3 (.t 8) (.t 38)⟩, ⟨none, .mv 9 (.c (.sc (.int .i64 4)))⟩]) (.ret))) (.skip)))) ((.seq (.reg false [⟨none, .zer 10 1 (.sc (.int .i64 0))⟩, ⟨none, .st 1 (.t 10) (.c (.sc (.int .i64 0)))⟩]) ((.seq (.reg false [⟨none, .zer 11 1 (.sc (.int .i64 0))⟩, ⟨none, .st 1 (.t 11) (.c (.sc (.int .i64 0)))⟩]) ((.seq (.reg false [⟨none, .wcl (some 39) f6 [(.t 5), (.t 10), (.t 11)]⟩]) ((.seq ((.seq (.reg false [⟨none, .ld 40 false 1 (.t 10)⟩, ⟨none, .mv 41 (.t 2)⟩, ⟨none, .len 42 (.t 41)⟩, ⟨none, .bin 43 .gtr (.t 40) (.t 42)⟩, ⟨none, .mv 44 (.t 43)⟩, ⟨some (44, true), .mv 45 (.t 2)⟩, ⟨some (44, true), .len 46 (.t 45)⟩, ⟨some (44, true), .call (some 47) f7 [(.t 5), (.c (.sc (.int .i64 3))), (.t 46)]⟩, ⟨none, .pick 48 (.t 44) (.t 47) (.c (.sc (.bool false)))⟩, ⟨none, .mv 49 (.t 48)⟩, ⟨some (49, false), .ld 50 false 1 (.t 11)⟩, ⟨some (49, false), .mv 51 (.t 3)⟩, ⟨some (49, false), .len 52 (.t 51)⟩, ⟨some (49, false), .bin 53 .gtr (.t 50) (.t 52)⟩, ⟨some (49, false), .mv 54 (.t 53)⟩, ⟨some (54, true), .mv 55 (.t 3)⟩, ⟨some (54, true), .len 56 (.t 55)⟩, ⟨some (54, true), .call (some 57) f7 [(.t 5), (.c (.sc (.int .i64 4))), (.t 56)]⟩, ⟨some (49, false), .pick 58 (.t 54) (.t 57) (.c (.sc (.bool false)))⟩, ⟨none, .pick 59 (.t 49) (.c (.sc (.bool true))) (.t 58)⟩]) (.cond (.t 59) ((.seq (.reg false [⟨none, .bld 60 (.ag [(.sc (.int .i64 0)), (.sc (.int .i64 0)), (.ls (some true) 3 [])]) []⟩, ⟨none, .st 3 (.t 8) (.t 60)⟩, ⟨none, .mv 9 (.c (.sc (.int .i64 2)))⟩]) (.ret))) (.skip)))) ((.seq (.reg false [⟨none, .ld 62 true 2 (.t 4)⟩, ⟨none, .mv 63 (.t 2)⟩, ⟨none, .mv 64 (.t 3)⟩, ⟨none, .call (some 65) f8 [(.t 62), (.t 5), (.t 63), (.t 64)]⟩, ⟨none, .mv 61 (.t 65)⟩, ⟨none, .ext 66 (.t 61) 0⟩, ⟨none, .ext 67 (.t 61) 1⟩, ⟨none, .zer 12 3 (.ag [(.sc (.int .i64 0)), (.sc (.int .i64 0)), (.ls (some true) 3 [])])⟩, ⟨none, .st 3 (.t 12) (.t 66)⟩, ⟨none, .mv 13 (.t 67)⟩]) ((.seq ((.seq (.reg false [⟨none, .mv 68 (.t 13)⟩, ⟨none, .un 69 .not (.t 68)⟩]) (.cond (.t 69) ((.seq (.reg false [⟨none, .bld 70 (.ag [(.sc (.int .i64 0)), (.sc (.int .i64 0)), (.ls (some true) 3 [])]) []⟩, ⟨none, .st 3 (.t 8) (.t 70)⟩, ⟨none, .mv 9 (.c (.sc (.int .i64 3)))⟩]) (.ret))) (.skip)))) ((.seq (.reg false [⟨none, .ld 71 true 3 (.t 12)⟩, ⟨none, .st 3 (.t 8) (.t 71)⟩, ⟨none, .mv 9 (.c (.sc (.int .i64 0)))⟩]) (.ret))))))))))))))))))))
def K_spSubstitute (P : Program) (fno : Nat) : Prop := ∀ (g : Int × Int) (e : Ex) (ts qs : List Ex) (n1 n2 : Option Bool) (hf : fitE e) (hts0 : ∀ t ∈ ts, fitE t) (hqs0 : ∀ t ∈ qs, fitE t) (ht : ts.length ≤ 1048576) (hq : qs.length ≤ 1048576), AF P fno [eG g, eE e, .ls n1 3 (ts.map eE), .ls n2 3 (qs.map eE)] (.tup ([.own (eE (substR g e ts qs).1), .own (eI (substR g e ts qs).2)]))
theorem a_spSubstitute {P : Program} (hm : P.follows .mixedOrders = true) {g f1 f2 f3 f4 f5 f6 f7 f8 : Nat} (hr : resF P g = some (72, k_spSubstitute f1 f2 f3 f4 f5 f6 f7 f8, [.c 8 3 true, .t 9])) (hc1 : K_l01Sig P f1) (hc2 : K_l04Wide P f2) (hc3 : K_l01Ok P f3) (hc4 : K_l04Valid P f4) (hc5 : K_l04Conditions P f5) (hc6 : K_l04Top P f6) (hc7 : K_l04Needs P f7) (hc8 : K_l04Sub P f8) : K_spSubstitute P g := by
  intro g e ts qs n1 n2 hf hts0 hqs0 ht hq
  obtain ⟨k, n, nn, ks, rfl⟩ := Ex.ex e
  have hE_ := hc3 wide (Ex.mk k n nn ks)
  have hA1 := hc4 g (n1, ts)
  have hA2 := hc4 g (n2, qs)
  have hC := hc5 (n1, ts)
  rw [show okG wide = true by decide, Bool.true_and] at hE_
  simp only [eE_mk, eS] at hE_ hA1 hA2 hC ⊢
  refine af_of_res hr hm rfl fun hb => ?_
  simp +contextual -implicitDefEqProofs only [k_spSubstitute, isAg_ag, atA0, List.map_cons, List.map_nil, D.size, D.sizeL, eI, eG, sub_ag, beq_self_eq_true, bne, Bool.not_false, Bool.and_true, go_sem, ↓reduceIte, Nat.reduceEqDiff, Nat.reduceAdd, Nat.reduceLeDiff, Nat.reduceBEq, Nat.reduceLT, Bool.false_eq_true, List.cons_append, List.nil_append]
  refine callQ_self (ds := [eG g]) (by rfl) (hc1 g) ?_
  cases hG : okG g
  · rw [show substR g (.mk k n nn ks) ts qs = (noE, 1) by simp only [substR, hG, if_true]]
    simp +contextual -implicitDefEqProofs only [noE, eE_mk, isAg_ag, atA0, List.map_cons, List.map_nil, List.length_cons, List.length_nil, D.cells, D.size, D.sizeL, modeOf, noPtrs, eB, sub_ag, beq_self_eq_true, bne, Bool.not_false, Bool.and_true, Bool.and_false, Bool.or_true, Bool.or_false, go_sem, ↓reduceIte, Nat.reduceEqDiff, Nat.reduceAdd, Nat.reduceLeDiff, Nat.reduceBEq, Nat.reduceLT, Bool.false_eq_true, List.cons_append, List.nil_append]
  simp +contextual -implicitDefEqProofs only [List.map_nil, eB, Bool.not_true, go_sem, ↓reduceIte]
  refine callQ_self (by rfl) (hc2 ()) ?_
  simp +contextual -implicitDefEqProofs only [List.map_cons, List.map_nil, eI, eG, Bool.and_true, go_sem, ↓reduceIte, Nat.reduceEqDiff]
  refine callQ_self (by rfl) (hE_) ?_
  cases hE : okE wide (Ex.mk k n nn ks)
  · rw [show substR g (.mk k n nn ks) ts qs = (noE, 1) by simp only [substR, hG, hE, Bool.true_eq_false, if_true, if_false]]
    simp +contextual -implicitDefEqProofs only [noE, eE_mk, isAg_ag, atA0, List.map_cons, List.map_nil, List.length_cons, List.length_nil, D.cells, D.size, D.sizeL, modeOf, noPtrs, eB, sub_ag, beq_self_eq_true, bne, Bool.not_false, Bool.and_true, Bool.and_false, Bool.or_true, Bool.or_false, go_sem, ↓reduceIte, Nat.reduceEqDiff, Nat.reduceAdd, Nat.reduceLeDiff, Nat.reduceBEq, Nat.reduceLT, Bool.false_eq_true, List.cons_append, List.nil_append]
  simp +contextual -implicitDefEqProofs only [isAg_ag, atA0, List.map_cons, List.map_nil, eB, sub_ag, Bool.not_true, go_sem, ↓reduceIte, Nat.reduceEqDiff, Nat.reduceLeDiff, Bool.false_eq_true]
  rw [all_G hG] at hA1 hA2
  refine callQ_self (by rfl) (hA1) ?_
  cases h1 : ts.all (okE g)
  · rw [show substR g (.mk k n nn ks) ts qs = (noE, 1) by simp only [substR, hG, hE, h1, Bool.true_eq_false, if_true, if_false]]
    simp +contextual -implicitDefEqProofs only [noE, eE_mk, isAg_ag, atA0, List.map_cons, List.map_nil, List.length_cons, List.length_nil, D.cells, D.size, D.sizeL, modeOf, noPtrs, eB, sub_ag, beq_self_eq_true, bne, Bool.not_false, Bool.and_true, Bool.and_false, Bool.or_true, Bool.or_false, go_sem, ↓reduceIte, Nat.reduceEqDiff, Nat.reduceAdd, Nat.reduceLeDiff, Nat.reduceBEq, Nat.reduceLT, Bool.false_eq_true, List.cons_append, List.nil_append]
  simp +contextual -implicitDefEqProofs only [isAg_ag, atA0, List.map_cons, List.map_nil, eB, sub_ag, Bool.not_true, go_sem, ↓reduceIte, Nat.reduceEqDiff, Nat.reduceLeDiff, Bool.false_eq_true]
  refine callQ_self (by rfl) (hA2) ?_
  cases h2 : qs.all (okE g)
  · rw [show substR g (.mk k n nn ks) ts qs = (noE, 1) by simp only [substR, hG, hE, h1, h2, Bool.true_eq_false, if_true, if_false]]
    simp +contextual -implicitDefEqProofs only [noE, eE_mk, isAg_ag, atA0, List.map_cons, List.map_nil, List.length_cons, List.length_nil, D.cells, D.size, D.sizeL, modeOf, noPtrs, eB, sub_ag, beq_self_eq_true, bne, Bool.not_false, Bool.and_true, Bool.and_false, Bool.or_true, Bool.or_false, go_sem, ↓reduceIte, Nat.reduceEqDiff, Nat.reduceAdd, Nat.reduceLeDiff, Nat.reduceBEq, Nat.reduceLT, Bool.false_eq_true, List.cons_append, List.nil_append]
  simp +contextual -implicitDefEqProofs only [List.map_cons, List.map_nil, eB, Bool.not_true, go_sem, ↓reduceIte, Nat.reduceEqDiff]
  have hok := hE
  simp only [okE, Bool.and_eq_true, decide_eq_true_eq] at hok
  have hT := hok.2.2
  have hsm : ∀ {l : List Ex}, (∀ t ∈ l, fitE t) → l.all (okE g) = true → small l := fun h0 h t ht => ⟨h0 t ht, by
    have := List.all_eq_true.1 h t ht
    simp only [okE, Bool.and_eq_true, decide_eq_true_eq] at this
    exact this.1⟩
  have hts := hsm hts0 h1
  have hqs := hsm hqs0 h2
  refine callQ_self (by rfl) (hC) ?_
  cases h5 : ts.all condE
  · rw [show substR g (.mk k n nn ks) ts qs = (noE, 4) by simp only [substR, hG, hE, h1, h2, h5, Bool.true_eq_false, if_true, if_false]]
    simp +contextual -implicitDefEqProofs only [noE, eE_mk, isAg_ag, atA0, List.map_cons, List.map_nil, List.length_cons, List.length_nil, D.cells, D.size, D.sizeL, modeOf, noPtrs, eB, sub_ag, beq_self_eq_true, bne, Bool.not_false, Bool.and_true, Bool.and_false, Bool.or_true, Bool.or_false, go_sem, ↓reduceIte, Nat.reduceEqDiff, Nat.reduceAdd, Nat.reduceLeDiff, Nat.reduceBEq, Nat.reduceLT, Bool.false_eq_true, List.cons_append, List.nil_append]
  simp +contextual -implicitDefEqProofs only [isAg_sc, atA0, List.map_cons, List.map_nil, List.length_cons, List.length_nil, D.size, modeOf, noPtrs, eB, bne, Bool.not_true, Bool.not_false, Bool.and_true, go_sem, ↓reduceIte, Nat.reduceEqDiff, Nat.reduceLeDiff, Nat.reduceBEq, Nat.reduceLT, Bool.false_eq_true, List.cons_append, List.nil_append]
  have hTo := hc6 (Ex.mk k n nn ks) hT 0 0 (by omega) (by omega) (by omega) (by omega)
  have b3 := top_in (.inl rfl : (3 : Int) = 3 ∨ (3 : Int) = 4) (Ex.mk k n nn ks) hT
  have b4 := top_in (.inr rfl : (4 : Int) = 3 ∨ (4 : Int) = 4) (Ex.mk k n nn ks) hT
  have z0 : ∀ {x : Int}, 0 ≤ x → mx 0 x = x := fun h => by unfold mx; split <;> omega
  rw [z0 b3.1, z0 b4.1, eE_mk] at hTo
  have hN3 := hc7 3 ts.length (.inl rfl) (by omega) (Ex.mk k n nn ks) hT
  have hN4 := hc7 4 qs.length (.inr rfl) (by omega) (Ex.mk k n nn ks) hT
  rw [eE_mk] at hN3 hN4
  refine wcl_self [10, 11] [] (by rfl) (by rfl) (by rfl) hTo rfl (by simp [wOut, outU, uI]) ?_
  simp +contextual -implicitDefEqProofs only [uI, isAg_ag, isAg_sc, atA0, List.map_cons, List.map_nil, List.length_map, sub_ag, Bool.not_true, Bool.or_false, go_sem, ↓reduceIte, Nat.reduceEqDiff, Nat.reduceAdd, Nat.reduceLeDiff, Bool.false_eq_true, List.cons_append, List.nil_append]
  refine ⟨fun t3 => ?_, fun t3 => ?_⟩
  · rw [decide_eq_true (show (ts.length : Int) < topE 3 (Ex.mk k n nn ks) from t3)] at hN3
    rw [show substR g (.mk k n nn ks) ts qs = (noE, 2) by simp only [substR, hG, hE, h1, h2, h5, Bool.true_eq_false, if_false, if_pos t3]]
    refine callQ_self (by rfl) hN3 ?_
    simp +contextual -implicitDefEqProofs only [noE, eE_mk, isAg_ag, atA0, List.map_cons, List.map_nil, List.length_cons, List.length_nil, D.cells, D.size, D.sizeL, modeOf, noPtrs, eB, sub_ag, beq_self_eq_true, bne, Bool.and_true, Bool.and_false, Bool.or_true, Bool.or_false, go_sem, ↓reduceIte, Nat.reduceEqDiff, Nat.reduceAdd, Nat.reduceLeDiff, Nat.reduceBEq, Nat.reduceLT, Bool.false_eq_true, List.cons_append, List.nil_append]
  refine ⟨fun t4 => ?_, fun t4 => ?_⟩
  · rw [decide_eq_true (show (qs.length : Int) < topE 4 (Ex.mk k n nn ks) from t4)] at hN4
    rw [show substR g (.mk k n nn ks) ts qs = (noE, 2) by simp only [substR, hG, hE, h1, h2, h5, Bool.true_eq_false, if_false, if_neg t3, if_pos t4]]
    refine callQ_self (by rfl) hN4 ?_
    simp +contextual -implicitDefEqProofs only [noE, eE_mk, isAg_ag, atA0, List.map_cons, List.map_nil, List.length_cons, List.length_nil, D.cells, D.size, D.sizeL, modeOf, noPtrs, eB, sub_ag, beq_self_eq_true, bne, Bool.and_true, Bool.and_false, Bool.or_true, Bool.or_false, go_sem, ↓reduceIte, Nat.reduceEqDiff, Nat.reduceAdd, Nat.reduceLeDiff, Nat.reduceBEq, Nat.reduceLT, Bool.false_eq_true, List.cons_append, List.nil_append]
  have hS := hc8 g ts qs n1 n2 hts hqs ht hq (Ex.mk k n nn ks) hT hok.1
  have hL := lsub_insR hG hT t3 t4
  rw [show substR g (.mk k n nn ks) ts qs = insR g ts qs (Ex.mk k n nn ks) by simp only [substR, hG, hE, h1, h2, h5, Bool.true_eq_false, if_false, if_neg t3, if_neg t4]]
  generalize lsubR g ts qs (Ex.mk k n nn ks) = r at hS hL
  generalize insR g ts qs (Ex.mk k n nn ks) = v at hL ⊢
  obtain ⟨re, rb⟩ := r
  obtain ⟨rk, rn, rnn, rks, rfl⟩ := Ex.ex re
  simp only [eE_mk] at hS hL
  refine callQ_self (by rfl) hS ?_
  cases rb
  · simp only [Bool.false_eq_true, if_false] at hL
    subst hL
    simp +contextual -implicitDefEqProofs only [noE, eE_mk, isAg_ag, atA0, List.map_cons, List.map_nil, List.length_cons, List.length_nil, D.cells, D.size, D.sizeL, modeOf, noPtrs, eB, sub_ag, beq_self_eq_true, bne, Bool.not_false, Bool.true_and, Bool.and_true, Bool.and_false, Bool.or_true, Bool.or_false, go_sem, ↓reduceIte, Nat.reduceEqDiff, Nat.reduceAdd, Nat.reduceLeDiff, Nat.reduceBEq, Nat.reduceLT, Bool.false_eq_true, List.cons_append, List.nil_append]
  · simp only [if_true] at hL
    subst hL
    simp +contextual -implicitDefEqProofs only [eE_mk, isAg_ag, atA0, List.map_cons, List.map_nil, List.length_cons, List.length_nil, D.size, D.sizeL, modeOf, noPtrs, eB, sub_ag, beq_self_eq_true, bne, Bool.not_true, Bool.not_false, Bool.true_and, Bool.and_true, Bool.and_false, Bool.or_false, go_sem, ↓reduceIte, Nat.reduceEqDiff, Nat.reduceAdd, Nat.reduceLeDiff, Nat.reduceBEq, Nat.reduceLT, Bool.false_eq_true, List.cons_append, List.nil_append]
end Go.Ax
