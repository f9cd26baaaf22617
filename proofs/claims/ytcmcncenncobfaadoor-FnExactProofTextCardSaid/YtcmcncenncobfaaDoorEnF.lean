/- THE ENGINE, PART 6: a generator of conditions over the register code, and its soundness. No condition. -/
import Derived.Test.YtcmcncenncobfaaDoorEnE
set_option linter.unusedSimpArgs false
set_option linter.unusedVariables false
set_option linter.unnecessarySimpa false
set_option linter.unusedSectionVars false
namespace Go.Ax
set_option linter.unusedSimpArgs false

variable {P : Program} {n0 : Nat} {S0 M0 : Nat → Prop} {w0 : World}
variable [Gk P n0 M0 w0]

abbrev Rs := AV × List (Nat × U)
def appS (st : St) (d : Option Nat) (r : Rs) : St := (st.addUs r.2).setO d r.1

def QD (P : Program) (op : ROp) (st : St) (r : Rs) : Prop := qOp P op st.ev st.unit (fun v u => v = r.1 ∧ u = r.2) ∧ (r.2 = [] ∨ st.fresh r.2 = true)
def StepDet (P : Program) (R : RO) (st : St) (r : Rs) : Prop :=
 match R.g with
 | none => QD P R.op st r
 | some (t, b) => (∃ tk c, st.get t = .im tk (.sc (.bool c)) ∧ (c = b → QD P R.op st r) ∧ (c = !b → r = (.tup [], []))) ∨ (st.get t = .tup [] ∧ r = (.tup [], []))

def Lex (P : Program) : List RO → List Rs → St → St → Prop
 | [], [], s, s' => s = s'
 | R :: Rl, r :: rl, s, s' => StepDet P R s r ∧ Lex P Rl rl (appS s R.op.dst r) s'
 | _, _, _, _ => False

theorem lex_of_vc {K : Exit → St → Prop} : ∀ {Rl : List RO} {st : St}, (∀ R ∈ Rl, R.op.isQ = true) → vcOps P Rl st K → ∃ rl s', Lex P Rl rl st s' ∧ K .normal s' ∧ rl.length = Rl.length
 | [], st, _, h => ⟨[], st, rfl, h, rfl⟩
 | R :: Rl, st, hQ, h => by
  have hq := hQ R (by simp)
  have hQ' : ∀ R ∈ Rl, R.op.isQ = true := fun R hR => hQ R (by simp [hR])
  have one : vcOp P R.op st (kops P Rl K) → ∃ r, QD P R.op st r ∧ vcOps P Rl (appS st R.op.dst r) K := by
   intro h
   unfold vcOp at h
   rw [hq, if_pos rfl] at h
   obtain ⟨av, us, hk, hd⟩ := qOp_det h
   obtain ⟨h1, h2⟩ := setO_post hk
   exact ⟨(av, us), ⟨hd, h1⟩, h2⟩
  obtain ⟨g, op⟩ := R
  cases g with
  | none =>
   obtain ⟨r, h1, h2⟩ := one h
   obtain ⟨rl, s', h3, h4, h5⟩ := lex_of_vc hQ' h2
   exact ⟨r :: rl, s', ⟨h1, h3⟩, h4, by simp [h5]⟩
  | some x =>
   obtain ⟨t, b⟩ := x
   have h : grdK (st.get t) b (vcOp P op st (kops P Rl K)) (vcOps P Rl (st.setO op.dst (.tup [])) K) := h
   unfold grdK at h
   split at h
   ·next tk c hc =>
    by_cases e : c = b
    ·obtain ⟨r, h1, h2⟩ := one (h.1 e)
     obtain ⟨rl, s', h3, h4, h5⟩ := lex_of_vc hQ' h2
     exact ⟨r :: rl, s', ⟨.inl ⟨tk, c, hc, fun _ => h1, fun e' => by subst e; cases c <;> cases e'⟩, h3⟩, h4, by simp [h5]⟩
    ·have e' : c = !b := by cases c <;> cases b <;> simp_all
     have h2 : vcOps P Rl (appS st op.dst (.tup [], [])) K := by unfold appS; rw [addUs_nil]; exact h.2 e'
     obtain ⟨rl, s', h3, h4, h5⟩ := lex_of_vc hQ' h2
     exact ⟨(.tup [], []) :: rl, s', ⟨.inl ⟨tk, c, hc, fun h => absurd h e, fun _ => rfl⟩, h3⟩, h4, by simp [h5]⟩
   ·next hc =>
    have h2 : vcOps P Rl (appS st op.dst (.tup [], [])) K := by unfold appS; rw [addUs_nil]; exact h
    obtain ⟨rl, s', h3, h4, h5⟩ := lex_of_vc hQ' h2
    exact ⟨(.tup [], []) :: rl, s', ⟨.inr ⟨hc, rfl⟩, h3⟩, h4, by simp [h5]⟩
   ·exact h.elim

def execL (st0 : St) (D : Nat → Option Nat) (V : Nat → Rs) : List Nat → St
 | [] => st0
 | i :: L => appS (execL st0 D V L) (D i) (V i)

theorem execL_n {st0 : St} {D : Nat → Option Nat} {V : Nat → Rs} : ∀ {L : List Nat}, (execL st0 D V L).n = st0.n
 | [] => rfl
 | i :: L => by
  have := execL_n (st0 := st0) (D := D) (V := V) (L := L)
  simp only [execL, appS]
  cases D i <;> exact this

theorem execL_us {st0 : St} {D : Nat → Option Nat} {V : Nat → Rs} : ∀ {L : List Nat}, (execL st0 D V L).us = L.flatMap (fun i => (V i).2) ++ st0.us
 | [] => rfl
 | i :: L => by
  have := execL_us (st0 := st0) (D := D) (V := V) (L := L)
  simp only [execL, appS, List.flatMap_cons, List.append_assoc]
  cases D i <;> simp [St.setO, St.set, St.addUs, this]

theorem execL_lk {st0 : St} {D : Nat → Option Nat} {V : Nat → Rs} (hD : ∀ i j t, D i = some t → D j = some t → i = j) : ∀ {L : List Nat} {t : Nat},
  (∀ i, i ∈ L → D i = some t → lk (execL st0 D V L).env t = (V i).1) ∧ ((∀ i ∈ L, D i ≠ some t) → lk (execL st0 D V L).env t = lk st0.env t)
 | [], t => ⟨by simp, fun _ => rfl⟩
 | j :: L, t => by
  obtain ⟨h1, h2⟩ := execL_lk (st0 := st0) (V := V) hD (L := L) (t := t)
  have hstep : lk (execL st0 D V (j :: L)).env t = if D j = some t then (V j).1 else lk (execL st0 D V L).env t := by
   simp only [execL, appS]
   cases hj : D j with
   | none => simp [St.setO, St.addUs]
   | some d => simp [St.setO, St.set, St.addUs, lk]
  rw [hstep]
  refine ⟨fun i hi hd => ?_, fun hno => ?_⟩
  ·split
   ·next e => rw [hD i j t hd e]
   ·next e =>
    rcases List.mem_cons.1 hi with rfl | hi
    ·exact absurd hd e
    ·exact h1 i hi hd
  ·rw [if_neg (hno j (by simp))]
   exact h2 fun i hi => hno i (by simp [hi])

def downs : Nat → List Nat
 | 0 => []
 | n + 1 => n :: downs n
theorem mem_downs {n i : Nat} : i ∈ downs n ↔ i < n := by
 induction n with
 | zero => simp [downs]
 | succ n ih => simp [downs, ih]; omega

theorem lex_exec {Rl : List RO} {rl : List Rs} : ∀ {st s' : St} {k : Nat} {st0 : St} {D : Nat → Option Nat} {V : Nat → Rs}, Lex P Rl rl st s' → st = execL st0 D V (downs k) →
  (∀ i, i < Rl.length → D (k + i) = (Rl.getD i default).op.dst) → (∀ i, i < Rl.length → V (k + i) = rl.getD i (.any, [])) →
  s' = execL st0 D V (downs (k + Rl.length)) ∧ ∀ i, i < Rl.length → StepDet P (Rl.getD i default) (execL st0 D V (downs (k + i))) (V (k + i)) := by
 induction Rl generalizing rl with
 | nil =>
  intro st s' k st0 D V h e _ _
  cases rl with
  | nil => simp only [Lex] at h; subst h; exact ⟨e, by simp⟩
  | cons => simp [Lex] at h
 | cons R Rl ih =>
  intro st s' k st0 D V h e hD hV
  cases rl with
  | nil => simp [Lex] at h
  | cons r rl =>
   simp only [Lex] at h
   have d0 := hD 0 (by simp)
   have v0 := hV 0 (by simp)
   simp only [Nat.add_zero, List.getD_cons_zero] at d0 v0
   have e2 : appS st R.op.dst r = execL st0 D V (downs (k + 1)) := by
    simp only [downs, execL]
    rw [e, d0, v0]
   obtain ⟨h1, h2⟩ := ih h.2 e2 (fun i hi => by have := hD (i + 1) (by simp; omega); simpa [Nat.add_assoc, Nat.add_comm 1 i] using this) (fun i hi => by have := hV (i + 1) (by simp; omega); simpa [Nat.add_assoc, Nat.add_comm 1 i] using this)
   refine ⟨by rw [h1]; congr 2; simp; omega, ?_⟩
   intro i hi
   cases i with
   | zero => simp only [Nat.add_zero, List.getD_cons_zero]; rw [v0, ← e]; exact h.1
   | succ i =>
    have := h2 i (by simpa using hi)
    rw [show k + (i + 1) = k + 1 + i by omega]
    simpa using this

theorem noU_of {k : Nat} : ∀ {us : List (Nat × U)}, k ∉ us.map (·.1) → noU k us = true
 | [], _ => rfl
 | (i, u) :: r, h => by
  simp only [lC, List.mem_cons, not_or] at h
  simp only [noU, bA, bne_iff_ne]
  exact ⟨fun e => h.1 e.symm, noU_of h.2⟩

theorem fresh_of {st : St} : ∀ {us : List (Nat × U)}, ((us ++ st.us).map (·.1)).Nodup → st.fresh us = true
 | [], _ => rfl
 | x :: r, h => by
  simp only [List.cons_append, lC, List.nodup_cons, List.map_append, List.mem_append, not_or] at h
  simp only [St.fresh, bA]
  exact ⟨⟨noU_of h.1.2, noU_of h.1.1⟩, fresh_of (by simpa using h.2)⟩

theorem nodup_of_fresh {st : St} (hk : (st.us.map (·.1)).Nodup) : ∀ {us : List (Nat × U)}, (us = [] ∨ st.fresh us = true) → ((us ++ st.us).map (·.1)).Nodup
 | [], _ => hk
 | x :: r, h => by
  have h := h.resolve_left (by simp)
  simp only [St.fresh, bA] at h
  simp only [List.cons_append, lC, List.nodup_cons, List.map_append, List.mem_append, not_or]
  exact ⟨⟨noU_spec h.1.2, noU_spec h.1.1⟩, by have := nodup_of_fresh hk (us := r) (.inr h.2); simpa using this⟩

theorem lu_of_mem {us : List (Nat × U)} (hk : (us.map (·.1)).Nodup) {k : Nat} {u : U} (hm : (k, u) ∈ us) : lu us k = some u := by
 induction us with
 | nil => cases hm
 | cons x us ih =>
  obtain ⟨i, v⟩ := x
  simp only [lC, List.nodup_cons] at hk
  simp only [lu]
  rcases List.mem_cons.1 hm with e | hm
  ·injection e with e1 e2; subst e1; subst e2; simp
  ·have : i ≠ k := fun e => hk.1 (List.mem_map.2 ⟨_, hm, e.symm⟩)
   rw [if_neg this]
   exact ih hk.2 hm

mutual
theorem vrep_ids {h : Heap} {us : List (Nat × U)} {g : Gh} : ∀ {av : AV} {v : Value}, VRep h us g av v → ∀ i ∈ av.ids, ∃ u, (i, u) ∈ us
 | .tr k, v, hr, i, hi => by
  simp only [AV.ids, List.mem_singleton] at hi; subst hi
  simp only [VRep] at hr; obtain ⟨⟨d, hd⟩, _⟩ := hr; exact ⟨_, hd⟩
 | .pw k _ _, v, hr, i, hi => by
  simp only [AV.ids, List.mem_singleton] at hi; subst hi
  simp only [VRep] at hr; obtain ⟨_, _, _, _, _, h1, _⟩ := hr; exact ⟨_, h1⟩
 | .cw k _ _ _ _, v, hr, i, hi => by
  simp only [AV.ids, List.mem_singleton] at hi; subst hi
  simp only [VRep] at hr; obtain ⟨_, _, _, _, _, _, h1, _⟩ := hr; exact ⟨_, h1⟩
 | .sm k _ _, v, hr, i, hi => by
  simp only [AV.ids, List.mem_singleton] at hi; subst hi
  simp only [VRep] at hr; obtain ⟨_, _, _, _, h1, _⟩ := hr; exact ⟨_, h1⟩
 | .pb k _, v, hr, i, hi => by
  simp only [AV.ids, List.mem_singleton] at hi; subst hi
  simp only [VRep] at hr; obtain ⟨_, _, _, h1, _⟩ := hr; exact ⟨_, h1⟩
 | .ps k, v, hr, i, hi => by
  simp only [AV.ids, List.mem_singleton] at hi; subst hi
  simp only [VRep] at hr; obtain ⟨_, _, _, _, h1, _⟩ := hr; exact ⟨_, h1⟩
 | .vb k _, v, hr, i, hi => by
  simp only [AV.ids, List.mem_singleton] at hi; subst hi
  simp only [VRep] at hr; obtain ⟨_, _, _, h1, _⟩ := hr; exact ⟨_, h1⟩
 | .sg vs, v, hr, i, hi => by
  simp only [AV.ids] at hi
  simp only [VRep] at hr
  obtain ⟨xs, h1, _⟩ := hr
  exact vrepL_ids h1 i hi
 | .im _ _, v, hr, i, hi => by simp [AV.ids] at hi
 | .tup _, v, hr, i, hi => by simp [AV.ids] at hi
 | .any, v, hr, i, hi => by simp [AV.ids] at hi
 | .cl f vs, v, hr, i, hi => by
  simp only [AV.ids] at hi
  simp only [VRep] at hr
  obtain ⟨xs, h1, _⟩ := hr
  exact vrepL_ids h1 i hi
 | .pq k _ _ _ _ _, v, hr, i, hi => by
  simp only [AV.ids, List.mem_singleton] at hi; subst hi
  simp only [VRep] at hr; obtain ⟨_, _, _, _, _, _, _, _, _, _, _, h1, _⟩ := hr; exact ⟨_, h1⟩
 | .qs k _ _ _ _ _, v, hr, i, hi => by
  simp only [AV.ids, List.mem_singleton] at hi; subst hi
  simp only [VRep] at hr; obtain ⟨_, _, _, _, _, _, _, _, _, _, h1, _⟩ := hr; exact ⟨_, h1⟩
 | .ss k _ _, v, hr, i, hi => by
  simp only [AV.ids, List.mem_singleton] at hi; subst hi
  simp only [VRep] at hr; obtain ⟨_, _, _, _, h1, _⟩ := hr; exact ⟨_, h1⟩
 | .z0 _ _, v, hr, i, hi => by simp [AV.ids] at hi
theorem vrepL_ids {h : Heap} {us : List (Nat × U)} {g : Gh} : ∀ {avs : List AV} {vs : List Value}, VRepL h us g avs vs → ∀ i ∈ AV.idsL avs, ∃ u, (i, u) ∈ us
 | [], vs, hr, i, hi => by simp [AV.idsL] at hi
 | a :: as, vs, hr, i, hi => by
  simp only [VRepL] at hr
  obtain ⟨v, r, rfl, h1, h2⟩ := hr
  simp only [AV.idsL, List.mem_append] at hi
  rcases hi with hi | hi
  ·exact vrep_ids h1 i hi
  ·exact vrepL_ids h2 i hi
end

theorem Sat.eqv {st st' : St} {a : Act} {w : World} (hs : Sat n0 S0 M0 w0 st a w) (hn : st'.n = st.n) (he : ∀ t, lk st'.env t = lk st.env t) (hp : st'.us.Perm st.us) : Sat n0 S0 M0 w0 st' a w := by
 obtain ⟨g, hu, hv⟩ := hs.gh
 have hfp : (fp g st'.us).Perm (fp g st.us) := hp.flatMap_right _
 have hm : ∀ x ∈ st.us, x ∈ st'.us := fun x hx => hp.mem_iff.2 hx
 refine ⟨hs.ms, hs.dfr, hs.tm.trans hn.symm, hs.base, hs.os, hs.tape, hs.output, hs.size, hs.old, g, ⟨?_, hfp.nodup_iff.2 hu.nodup, fun b hb => hu.lt b (hfp.mem_iff.1 hb), fun b hb => hu.low b (hfp.mem_iff.1 hb), ?_, ?_, ?_, fun b hb => hu.fz b (hfp.mem_iff.1 hb), hu.pin.mono fun i u hm hq => ⟨⟨_, hp.mem_iff.1 hm, hq⟩, rfl, rfl⟩⟩, fun t => ?_⟩
 ·exact (hp.map _).nodup_iff.2 hu.keys
 ·intro k hk
  exact hu.dead k fun h => hk ((hp.map _).mem_iff.2 h)
 ·intro b hb
  obtain ⟨h1, h2, h3⟩ := hu.sh b hb
  exact ⟨h1, h2, fun h => h3 (hfp.mem_iff.1 h)⟩
 ·intro x hx
  have hx' := hp.mem_iff.1 hx
  exact (hu.each x hx').mono hx' hm (fun _ _ => rfl) (fun _ _ => ⟨rfl, rfl, rfl⟩) rfl (fun _ _ h => h) (fun _ _ _ h => h)
 ·rw [he]
  exact (hv t).mono hm (fun _ _ => rfl) (fun _ _ => ⟨rfl, rfl, rfl⟩) (fun _ _ _ h => h)

end Go.Ax
namespace Go.Ax
set_option linter.unusedSimpArgs false

variable {P : Program} {wv : Wv} {n0 : Nat} {S0 M0 : Nat → Prop} {w0 : World}
variable [Gk P n0 M0 w0]

theorem noDup_spec : ∀ {l : List Nat}, noDup l = true → l.Nodup
 | [], _ => List.nodup_nil
 | x :: l, h => by
  simp only [noDup, bA, Bool.not_eq_true', List.contains_eq_mem, decide_eq_false_iff_not] at h
  exact List.nodup_cons.2 ⟨h.1, noDup_spec h.2⟩

def dOf (R : List RO) (i : Nat) : Option Nat := R[i]?.bind (·.op.dst)
def vOf (rl : List Rs) (i : Nat) : Rs := rl.getD i (.any, [])

theorem dOf_inj : ∀ {R : List RO}, (R.filterMap (·.op.dst)).Nodup → ∀ i j t, dOf R i = some t → dOf R j = some t → i = j
 | [], _, i, j, t, h, _ => by simp [dOf] at h
 | r :: R, hn, i, j, t, hi, hj => by
  have mem : ∀ k, dOf R k = some t → t ∈ R.filterMap (·.op.dst) := by
   intro k hk
   simp only [dOf, oB] at hk
   obtain ⟨x, hx, hd⟩ := hk
   exact List.mem_filterMap.2 ⟨x, List.mem_of_getElem? hx, hd⟩
  have hn' : (R.filterMap (·.op.dst)).Nodup := by
   simp only [List.filterMap_cons] at hn
   split at hn
   ·exact hn
   ·exact (List.nodup_cons.1 hn).2
  have h0 : ∀ k, r.op.dst = some t → dOf R k = some t → False := by
   intro k h1 h2
   simp only [List.filterMap_cons, h1] at hn
   exact (List.nodup_cons.1 hn).1 (mem k h2)
  cases i with
  | zero =>
   cases j with
   | zero => rfl
   | succ j => exact (h0 j (by simpa [dOf] using hi) (by simpa [dOf] using hj)).elim
  | succ i =>
   cases j with
   | zero => exact (h0 i (by simpa [dOf] using hj) (by simpa [dOf] using hi)).elim
   | succ j => rw [dOf_inj hn' i j t (by simpa [dOf] using hi) (by simpa [dOf] using hj)]

theorem downs_nodup : ∀ {n : Nat}, (downs n).Nodup
 | 0 => List.nodup_nil
 | n + 1 => List.nodup_cons.2 ⟨by rw [mem_downs]; omega, downs_nodup⟩

theorem downs_len : ∀ {n : Nat}, (downs n).length = n
 | 0 => rfl
 | n + 1 => by simp [downs, downs_len]

theorem perm_part {n : Nat} {X : List Nat} (hn : X.Nodup) (hl : ∀ i ∈ X, i < n) : X.Perm ((downs n).filter (fun i => decide (i ∈ X))) :=
 (List.perm_ext_iff_of_nodup hn (downs_nodup.filter _)).2 fun a => by
  simp only [List.mem_filter, mem_downs, decide_eq_true_eq]
  exact ⟨fun h => ⟨hl a h, h⟩, fun h => h.2⟩

theorem full_of_len {n : Nat} {X : List Nat} (hn : X.Nodup) (hl : ∀ i ∈ X, i < n) (h : X.length = n) : ∀ i, i < n → i ∈ X := by
 have := (perm_part hn hl).length_eq
 have h2 : ((downs n).filter (fun i => decide (i ∈ X))).length = (downs n).length := by rw [← this, h, downs_len]
 intro i hi
 have := List.length_filter_eq_length_iff.1 h2 i (mem_downs.2 hi)
 simpa using this

theorem sub_flat {α β : Type} {f : α → List β} : ∀ {l m : List α}, l.Sublist m → (l.flatMap f).Sublist (m.flatMap f)
 | _, _, .slnil => List.Sublist.refl _
 | _, _, .cons a h => by
  simp only [List.flatMap_cons]
  exact (sub_flat h).trans (List.sublist_append_right _ _)
 | _, _, .cons_cons a h => by
  simp only [List.flatMap_cons]
  exact (List.Sublist.refl _).append (sub_flat h)

theorem keys_part {st0 : St} {D : Nat → Option Nat} {V : Nat → Rs} {n : Nat} (hf : ((execL st0 D V (downs n)).us.map (·.1)).Nodup) {X : List Nat} (hn : X.Nodup) (hl : ∀ i ∈ X, i < n) :
  ((execL st0 D V X).us.map (·.1)).Nodup ∧ ∀ x ∈ (execL st0 D V X).us, x ∈ (execL st0 D V (downs n)).us := by
 rw [execL_us] at hf
 simp only [execL_us]
 have hp := perm_part hn hl
 have h1 : ((X.flatMap fun i => (V i).2) ++ st0.us).Perm ((((downs n).filter (fun i => decide (i ∈ X))).flatMap fun i => (V i).2) ++ st0.us) := (hp.flatMap_right _).append_right _
 have h2 : ((((downs n).filter (fun i => decide (i ∈ X))).flatMap fun i => (V i).2) ++ st0.us).Sublist (((downs n).flatMap fun i => (V i).2) ++ st0.us) := (sub_flat List.filter_sublist).append (List.Sublist.refl _)
 exact ⟨(h1.map _).nodup_iff.2 ((h2.map _).nodup hf), fun x hx => h2.subset (h1.mem_iff.1 hx)⟩

theorem final_nodup {st0 : St} {D : Nat → Option Nat} {V : Nat → Rs} {R : List RO} (h0 : (st0.us.map (·.1)).Nodup) : ∀ n, n ≤ R.length → (∀ i, i < R.length → StepDet P (R.getD i default) (execL st0 D V (downs i)) (V i)) →
  ((execL st0 D V (downs n)).us.map (·.1)).Nodup
 | 0, _, _ => h0
 | n + 1, hn, h => by
  have ih := final_nodup h0 n (by omega) h
  have hs := h n (by omega)
  have : (V n).2 = [] ∨ (execL st0 D V (downs n)).fresh (V n).2 = true := by
   unfold StepDet at hs
   split at hs
   ·exact hs.2
   ·next t b _ =>
    rcases hs with ⟨tk, c, _, h1, h2⟩ | ⟨_, h2⟩
    ·by_cases e : c = b
     ·exact (h1 e).2
     ·exact .inl (by rw [h2 (by cases c <;> cases b <;> simp_all)])
    ·exact .inl (by rw [h2])
  have := nodup_of_fresh ih this
  have e : (execL st0 D V (downs (n + 1))).us = (V n).2 ++ (execL st0 D V (downs n)).us := by simp [execL_us, downs]
  rw [e]
  exact this

structure Drawn (P : Program) (wv : Wv) (ops : Array Oper) (R : List RO) (st0 : St) (V : Nat → Rs) : Prop where
 len : R.length = ops.size
 res : ∀ (i : Nat) (o : Oper), ops[i]? = some o → ∃ r, R[i]? = some r ∧ resRO P wv st0.n ops o = some r
 inj : ∀ i j t, dOf R i = some t → dOf R j = some t → i = j
 acyc : ∀ i, ∀ j ∈ waits ops i, j < i
 isQ : ∀ (i : Nat) (r : RO), R[i]? = some r → r.op.isQ = true
 slot : ∀ (i : Nat) (r : RO) (t : Nat), R[i]? = some r → t ∈ r.slots → ∀ j, dOf R j = some t → (j < i ∧ j ∈ waits ops i) ∨ (i < j ∧ i ∈ waits ops j)
 step : ∀ (i : Nat) (r : RO), R[i]? = some r → StepDet P r (execL st0 (dOf R) V (downs i)) (V i)
 keys : ((execL st0 (dOf R) V (downs R.length)).us.map (·.1)).Nodup

theorem drawOk_len {ops : Array Oper} {R : List RO} (h : drawOk ops R = true) : R.length = ops.size := by
 unfold drawOk at h
 simp only [bA, beq_iff_eq] at h
 exact h.1.2

theorem mapM_get {α β : Type} {f : α → Option β} : ∀ {l : List α} {m : List β}, l.mapM f = some m → ∀ (i : Nat) (a : α), l[i]? = some a → ∃ b, m[i]? = some b ∧ f a = some b
 | [], m, _, i, a, h => by simp at h
 | x :: l, m, hm, i, a, h => by
  simp only [List.mapM_cons, oD, oB, oP, oS] at hm
  obtain ⟨b, hb, m', hm', rfl⟩ := hm
  cases i with
  | zero => simp only [List.getElem?_cons_zero, oS] at h; subst h; exact ⟨b, by simp, hb⟩
  | succ i => simpa using mapM_get hm' i a (by simpa using h)

theorem drawn_of {ops : Array Oper} {R : List RO} {st s' : St} {rl : List Rs} (hd : drawOk ops R = true) (hR : ops.toList.mapM (resRO P wv st.n ops) = some R) (hk : (st.us.map (·.1)).Nodup)
  (hx : Lex P R rl st s') : Drawn P wv ops R st (vOf rl) ∧ s' = execL st (dOf R) (vOf rl) (downs R.length) := by
 have hx' := lex_exec (k := 0) (st0 := st) (D := dOf R) (V := vOf rl) hx rfl (fun i hi => by
  simp only [dOf, Nat.zero_add]
  rw [List.getD_eq_getElem?_getD, List.getElem?_eq_getElem hi]
  rfl) (fun i hi => by simp [vOf])
 simp only [Nat.zero_add] at hx'
 obtain ⟨e, hstep⟩ := hx'
 have hlen := drawOk_len hd
 unfold drawOk at hd
 simp only [bA, beq_iff_eq, List.all_eq_true, List.mem_range] at hd
 obtain ⟨⟨h1, _⟩, h2⟩ := hd
 have lt_of : ∀ {i : Nat} {r : RO}, R[i]? = some r → i < R.length := fun h => (List.getElem?_eq_some_iff.1 h).1
 refine ⟨⟨hlen, ?_, dOf_inj (noDup_spec h1), ?_, ?_, ?_, ?_, final_nodup hk _ (Nat.le_refl _) hstep⟩, e⟩
 ·intro i o ho
  exact mapM_get hR i o (by simpa using ho)
 ·intro i j hj
  by_cases hi : i < R.length
  ·have := (h2 i hi).1 j hj
   simpa using this
  ·have : ops[i]? = none := by simp; omega
   simp [waits, this] at hj
 ·intro i r hr
  have := (h2 i (lt_of hr)).2
  rw [hr] at this
  simp only [bA] at this
  exact this.1
 ·intro i r t hr ht j hj
  have := (h2 i (lt_of hr)).2
  rw [hr] at this
  simp only [bA, List.all_eq_true] at this
  have hs := this.2 t ht
  unfold slotOk at hs
  simp only [List.all_eq_true, List.mem_range] at hs
  simp only [dOf, oB] at hj
  obtain ⟨x, hx, hd⟩ := hj
  have := hs j (lt_of hx)
  rw [hx] at this
  simpa [hd] using this
 ·intro i r hr
  have := hstep i (lt_of hr)
  rw [List.getD_eq_getElem?_getD, hr] at this
  exact this

structure Come (P : Program) (ops : Array Oper) (R : List RO) (X : List Nat) (listed : Array Bool) : Prop where
 nd : X.Nodup
 lt : ∀ i ∈ X, i < ops.size
 closed : ∀ i ∈ X, ∀ j ∈ waits ops i, j ∈ X
 size : listed.size = ops.size
 li : ∀ j, j < ops.size → (listed.getD j true = true ↔ j ∈ X)

theorem Come.li' {ops : Array Oper} {R : List RO} {X : List Nat} {listed : Array Bool} (h : Come P ops R X listed) {j : Nat} (hj : listed.getD j false = true) : j ∈ X := by
 by_cases hlt : j < ops.size
 ·refine (h.li j hlt).1 ?_
  rw [Array.getD_eq_getD_getElem?] at hj ⊢
  rw [← h.size] at hlt
  rw [Array.getElem?_eq_getElem hlt] at hj ⊢
  exact hj
 ·rw [Array.getD_eq_getD_getElem?, Array.getElem?_eq_none (by rw [h.size]; omega)] at hj
  cases hj

theorem Come.full {ops : Array Oper} {R : List RO} {X : List Nat} {listed : Array Bool} (h : Come P ops R X listed) (ha : ∀ i, ∀ j ∈ waits ops i, j < i) (hr : Region.ready .any ops listed = []) : ∀ i, i < ops.size → i ∈ X := by
 intro i
 induction i using Nat.strongRecOn with
 | ind i ih =>
  intro hi
  by_cases hm : i ∈ X
  ·exact hm
  ·exfalso
   have : i ∈ Region.ready .any ops listed := by
    rw [mem_ready]
    refine ⟨?_, ops[i], by simp [hi], fun e he hb => ?_⟩
    ·cases hc : listed.getD i true with
     | false => rfl
     | true => exact absurd ((h.li i hi).1 hc) hm
    ·have hw : e.on ∈ waits ops i := by
      simp only [waits, Array.getElem?_eq_getElem hi, direct]
      exact List.mem_map.2 ⟨e, List.mem_filter.2 ⟨by simpa using he, hb⟩, rfl⟩
     have hlt := ha i _ hw
     have hin := ih _ hlt (by omega)
     have := (h.li e.on (by omega)).2 hin
     rw [Array.getD_eq_getD_getElem?] at this ⊢
     have hs : e.on < listed.size := by rw [h.size]; omega
     rw [Array.getElem?_eq_getElem hs] at this ⊢
     exact this
   rw [hr] at this
   cases this

theorem Come.next {ops : Array Oper} {R : List RO} {X : List Nat} {listed : Array Bool} (h : Come P ops R X listed) {i : Nat} (hi : i ∈ Region.ready .any ops listed) :
  Come P ops R (i :: X) (listed.setIfInBounds i true) ∧ i ∉ X ∧ ∃ o, ops[i]? = some o ∧ ∀ j ∈ waits ops i, j ∈ X := by
 obtain ⟨h1, o, ho, h2⟩ := mem_ready.1 hi
 have hlt : i < ops.size := (Array.getElem?_eq_some_iff.1 ho).1
 have hni : i ∉ X := fun hx => by rw [(h.li i hlt).2 hx] at h1; cases h1
 have hw : ∀ j ∈ waits ops i, j ∈ X := by
  intro j hj
  simp only [waits, ho, direct] at hj
  obtain ⟨e, he, rfl⟩ := List.mem_map.1 hj
  obtain ⟨he1, he2⟩ := List.mem_filter.1 he
  exact h.li' (h2 e (by simpa using he1) he2)
 refine ⟨⟨List.nodup_cons.2 ⟨hni, h.nd⟩, ?_, ?_, by simpa using h.size, ?_⟩, hni, o, ho, hw⟩
 ·intro j hj
  rcases List.mem_cons.1 hj with rfl | hj
  ·exact hlt
  ·exact h.lt j hj
 ·intro j hj k hk
  rcases List.mem_cons.1 hj with rfl | hj
  ·exact List.mem_cons_of_mem _ (hw k hk)
  ·exact List.mem_cons_of_mem _ (h.closed j hj k hk)
 ·intro j hj
  by_cases e : i = j
  ·subst e
   have hs : i < listed.size := by rw [h.size]; exact hlt
   simp [Array.getD_eq_getD_getElem?, hs]
  ·rw [getD_set_ne _ e, h.li j hj]
   simp [Ne.symm e]

theorem slots_same {ops : Array Oper} {R : List RO} {st : St} {V : Nat → Rs} {X : List Nat} {listed : Array Bool} {i t : Nat} {r : RO} (hd : Drawn P wv ops R st V) (h : Come P ops R X listed) (hr : R[i]? = some r)
  (hw : ∀ j ∈ waits ops i, j ∈ X) (hn : i ∉ X) (ht : t ∈ r.slots) : lk (execL st (dOf R) V X).env t = lk (execL st (dOf R) V (downs i)).env t := by
 have a := execL_lk (st0 := st) (V := V) hd.inj (L := X) (t := t)
 have b := execL_lk (st0 := st) (V := V) hd.inj (L := downs i) (t := t)
 by_cases he : ∃ j, dOf R j = some t
 ·obtain ⟨j, hj⟩ := he
  rcases hd.slot i r t hr ht j hj with ⟨h1, h2⟩ | ⟨h1, h2⟩
  ·rw [a.1 j (hw j h2) hj, b.1 j (mem_downs.2 h1) hj]
  ·have hx : j ∉ X := fun hx => hn (h.closed j hx i h2)
   rw [a.2 fun k hk e => hx (hd.inj k j t e hj ▸ hk), b.2 fun k hk e => by
    have := hd.inj k j t e hj
    have := mem_downs.1 hk
    omega]
 ·rw [a.2 fun k _ e => he ⟨k, e⟩, b.2 fun k _ e => he ⟨k, e⟩]

end Go.Ax
namespace Go.Ax
set_option linter.unusedSimpArgs false

variable {P : Program} {wv : Wv} {n0 : Nat} {S0 M0 : Nat → Prop} {w0 : World}
variable [Gk P n0 M0 w0]

theorem one_sound {ops : Array Oper} {R : List RO} {st : St} {V : Nat → Rs} {X : List Nat} {listed : Array Bool} {i : Nat} {r : RO} {o : Oper} {a : Act} {w : World} {Q : Exit → Act → World → Prop}
  (hd : Drawn P wv ops R st V) (h : Come P ops R X listed) (ho : ops[i]? = some o) (hr : R[i]? = some r) (hres : resRO P wv st.n ops o = some r)
  (hw : ∀ j ∈ waits ops i, j ∈ X) (hn : i ∉ X) (hnext : Come P ops R (i :: X) (listed.setIfInBounds i true)) (hs : Sat n0 S0 M0 w0 (execL st (dOf R) V X) a w) :
  wpOp P ops Q i (fun a w => Sat n0 S0 M0 w0 (execL st (dOf R) V (i :: X)) a w) a w := by
 have hlen := hd.len
 have hXn : (execL st (dOf R) V X).n = st.n := execL_n
 have hget : ∀ t ∈ r.slots, (execL st (dOf R) V X).get t = (execL st (dOf R) V (downs i)).get t := fun t ht => slots_same hd h hr hw hn ht
 have hkX := keys_part hd.keys h.nd (fun j hj => by have := h.lt j hj; omega)
 have hkN := keys_part hd.keys hnext.nd (fun j hj => by have := hnext.lt j hj; omega)
 have hi : i < R.length := (List.getElem?_eq_some_iff.1 hr).1
 have hkD := keys_part (X := downs i) hd.keys downs_nodup (fun j hj => by have := mem_downs.1 hj; omega)
 have hdst : dOf R i = r.op.dst := by simp [dOf, hr]
 have hfr : (V i).2 = [] ∨ (execL st (dOf R) V X).fresh (V i).2 = true := .inr (fresh_of (by
  have e : (execL st (dOf R) V (i :: X)).us = (V i).2 ++ (execL st (dOf R) V X).us := by simp [execL_us]
  rw [← e]
  exact hkN.1))
 have hexec : execL st (dOf R) V (i :: X) = appS (execL st (dOf R) V X) r.op.dst (V i) := by simp only [execL]; rw [hdst]
 obtain ⟨g, hu, hv⟩ := hs.gh
 have hstep := hd.step i r hr
 have hres0 := hres
 unfold resRO at hres0
 simp only [oD, oB, guard_some] at hres0
 obtain ⟨op, hop, _, h1, _, h2, hres0⟩ := hres0
 have hdl : ∀ d, o.dst = some d → d < (execL st (dOf R) V X).n := by
  intro d hdd
  rw [hXn]
  rw [hdd] at h2
  simpa using h2
 have hrop : r.op = op := by
  split at hres0
  ·simp only [oP, oS] at hres0; rw [← hres0]
  ·simp only [oB, oP, oS] at hres0
   obtain ⟨_, _, _, _, hres0⟩ := hres0
   rw [← hres0]
 have run : ∀ {Q' : Exit → Act → World → Prop}, QD P r.op (execL st (dOf R) V (downs i)) (V i) → o.wp P a w (fun a w => Sat n0 S0 M0 w0 (execL st (dOf R) V (i :: X)) a w) Q' := by
  intro Q' hq
  have hev : ∀ x ∈ r.op.xs, (execL st (dOf R) V X).ev x = (execL st (dOf R) V (downs i)).ev x := by
   intro x hx
   cases x with
   | c d => rfl
   | t n => exact hget n (List.mem_append_left _ (List.mem_filterMap.2 ⟨_, hx, rfl⟩))
  have hq' : qOp P r.op (execL st (dOf R) V X).ev (execL st (dOf R) V X).unit (fun v u => v = (V i).1 ∧ u = (V i).2) := by
   refine qOp_local hq.1 hev ?_
   intro x hx k u hk hu'
   rw [← hev x hx] at hk
   cases x with
   | c d => simp only [St.ev, litAV] at hk; split at hk <;> simp [AV.ids] at hk
   | t n =>
    obtain ⟨u', hm⟩ := vrep_ids (hv n) k hk
    have h3 := hkX.2 _ hm
    have h4 := hkD.2 _ (mem_of_lu hu')
    have e1 := lu_of_mem hd.keys h3
    have e2 := lu_of_mem hd.keys h4
    rw [e1] at e2
    injection e2 with e2
    subst e2
    exact lu_of_mem hkX.1 hm
  have hQ := hd.isQ i r hr
  rw [hrop] at hq' hQ
  have ⟨h5, h6⟩ := q_sound (Q' := Q') (n := st.n) hop hQ hXn ⟨hs, hu, hv, hdl⟩ hq'
  refine Oper.wp_mono ?_ h5
  rintro a' w' ⟨av, us, ⟨rfl, rfl⟩, hS⟩
  rw [hexec, hrop, h6]
  exact hS hfr
 unfold wpOp
 rw [ho]
 simp only
 split at hres0
 ·next hg =>
  simp only [oP, oS] at hres0
  subst hres0
  have : Region.wanted o (yielded ops a.tmps) = true := by simp [Region.wanted, hg]
  rw [this, if_pos rfl]
  exact .inl (run hstep)
 ·next j b hg =>
  simp only [oB, oP, oS] at hres0
  obtain ⟨p, hp, t, ht, rfl⟩ := hres0
  rcases hstep with ⟨tk, c, hc, hy, hno⟩ | ⟨hc, hno⟩
  ·rw [← hget t (List.mem_append_right _ (by simp))] at hc
   have hvt := hv t
   have hc' : lk (execL st (dOf R) V X).env t = .im tk (.sc (.bool c)) := hc
   rw [hc'] at hvt
   have hval := sc_val hvt
   have hyy := yielded_eq (ops := ops) hp ht hval
   have hwt : Region.wanted o (yielded ops a.tmps) = (some c == some b) := by simp [Region.wanted, hg, hyy]
   rw [hwt]
   by_cases e : c = b
   ·rw [if_pos (by simp [e])]
    exact .inl (run (hy e))
   ·rw [if_neg (by simp [e])]
    have hV : V i = (.tup [], []) := hno (by cases c <;> cases b <;> simp_all)
    rw [hexec, hV, h1]
    unfold appS
    rw [addUs_nil]
    exact sat_set hs hu hv hdl undef_rep
  ·rw [← hget t (List.mem_append_right _ (by simp))] at hc
   have hvt := hv t
   have hc' : lk (execL st (dOf R) V X).env t = .tup [] := hc
   rw [hc'] at hvt
   have hwt : Region.wanted o (yielded ops a.tmps) = false := by simp [Region.wanted, hg, yielded_undef (ops := ops) hp ht (undef_val hvt)]
   rw [hwt, if_neg (by simp), hexec, hno, h1]
   unfold appS
   rw [addUs_nil]
   exact sat_set hs hu hv hdl undef_rep

theorem drawn_any {ops : Array Oper} {R : List RO} {st : St} {V : Nat → Rs} {Q : Exit → Act → World → Prop} (hd : Drawn P wv ops R st V)
  (hend : ∀ a w, Sat n0 S0 M0 w0 (execL st (dOf R) V (downs R.length)) a w → Q .normal a w) : ∀ (fuel : Nat) (X : List Nat) (listed : Array Bool) (a : Act) (w : World), Come P ops R X listed → fuel + X.length = ops.size →
  Sat n0 S0 M0 w0 (execL st (dOf R) V X) a w → wpAny P .any ops Q fuel listed a w := by
 have fin : ∀ {X : List Nat} {listed : Array Bool} {a : Act} {w : World}, Come P ops R X listed → (∀ i, i < ops.size → i ∈ X) → Sat n0 S0 M0 w0 (execL st (dOf R) V X) a w → Q .normal a w := by
  intro X listed a w h hf hs
  have hp : X.Perm (downs R.length) := (List.perm_ext_iff_of_nodup h.nd downs_nodup).2 fun i => by
   rw [mem_downs, hd.len]
   exact ⟨h.lt i, hf i⟩
  refine hend a w (hs.eqv (by rw [execL_n, execL_n]) ?_ ?_)
  ·intro t
   have x := execL_lk (st0 := st) (V := V) hd.inj (L := X) (t := t)
   have y := execL_lk (st0 := st) (V := V) hd.inj (L := downs R.length) (t := t)
   by_cases he : ∃ j, j ∈ X ∧ dOf R j = some t
   ·obtain ⟨j, h1, h2⟩ := he
    rw [x.1 j h1 h2, y.1 j (hp.mem_iff.1 h1) h2]
   ·rw [x.2 fun k hk e => he ⟨k, hk, e⟩, y.2 fun k hk e => he ⟨k, hp.mem_iff.2 hk, e⟩]
  ·rw [execL_us, execL_us]
   exact ((hp.flatMap_right _).append_right _).symm
 intro fuel
 induction fuel with
 | zero =>
  intro X listed a w h hl hs
  have hf := full_of_len h.nd h.lt (by omega)
  refine ⟨?_, fin h hf hs⟩
  rw [List.eq_nil_iff_forall_not_mem]
  intro i hi
  have := h.next hi
  obtain ⟨_, h2, o, ho, _⟩ := this
  exact h2 (hf i (Array.getElem?_eq_some_iff.1 ho).1)
 | succ fuel ih =>
  intro X listed a w h hl hs
  refine ⟨fun h0 => fin h (h.full hd.acyc h0) hs, fun i hi => ?_⟩
  obtain ⟨h1, h2, o, ho, h3⟩ := h.next hi
  obtain ⟨r, hr, hres⟩ := hd.res i o ho
  refine wpOp_mono ?_ (one_sound (Q := Q) hd h ho hr hres h3 h2 h1 hs)
  intro a' w' hs'
  exact ih (i :: X) _ a' w' h1 (by simp only [lK]; omega) hs'

theorem draw_sound {ops : Array Oper} {R : List RO} {st : St} {K : Exit → St → Prop} {id : Nat} {a : Act} {w : World} (hm : P.follows .mixedOrders = true) (hd : drawOk ops R = true)
  (hR : ops.toList.mapM (resRO P wv st.n ops) = some R) (hs : Sat n0 S0 M0 w0 st a w) (hq : vcOps P R st K) : (Code.region id ops true).wp P (Post n0 S0 M0 w0 st.n K) a w := by
 refine wp_region_any hm ?_
 have hQ : ∀ r ∈ R, r.op.isQ = true := by
  have hd' := hd
  unfold drawOk at hd'
  simp only [bA, beq_iff_eq, List.all_eq_true, List.mem_range] at hd'
  intro r hr
  obtain ⟨i, hi, e⟩ := List.mem_iff_getElem.1 hr
  have := (hd'.2 i hi).2
  rw [List.getElem?_eq_getElem hi, e] at this
  simp only [bA] at this
  exact this.1
 obtain ⟨rl, s', hx, hK, hl⟩ := lex_of_vc hQ hq
 obtain ⟨g, hu, hv⟩ := hs.gh
 obtain ⟨hD, e⟩ := drawn_of hd hR hu.keys hx
 have hc : Come P ops R [] (Array.replicate ops.size false) := ⟨List.nodup_nil, by simp, by simp, by simp, fun j hj => by simp [Array.getD_eq_getD_getElem?, hj]⟩
 have hn : s'.n = st.n := by rw [e]; exact execL_n
 exact drawn_any hD (fun a w h => ⟨s', hn, hK, by rw [e]; exact h⟩) ops.size [] _ a _ hc (by simp) ⟨hs.ms, hs.dfr, hs.tm, hs.base, hs.os, hs.tape, hs.output, hs.size, hs.old, hs.gh⟩

end Go.Ax
namespace Go.Ax
set_option linter.unusedSimpArgs false

variable {P : Program} {wv : Wv} {n0 : Nat} {S0 M0 : Nat → Prop} {w0 : World}
variable [Gk P n0 M0 w0]
variable {st : St} {o : Oper} {a : Act} {w : World} {k : KQ} {g : Gh}

def ROp.isFl : ROp → Bool
 | .mv .. | .fa .. | .ext .. | .nck .. | .mkf .. | .pick .. => true
 | _ => false

theorem zerOp_fl {d : Nat} {e : TypeId} {r : ROp} (h : zerOp P d e = some r) : r.isFl = false := by
 unfold zerOp at h
 split at h
 ·injection h with h; subst h; rfl
 ·simp only [oD, oB, oP, oS] at h
  obtain ⟨s, hs, z, hz, rfl⟩ := h
  rfl
theorem bsOp_fl {wv : Wv} {d sz : Nat} {z : D} {l : Nat} {ps : List (Nat × X)} : (bsOp wv d sz z l ps).isFl = false := by
 unfold bsOp
 split <;> rfl
theorem float_yields {n : Nat} {r : ROp} (hres : resOp P wv n o = some r) (hfl : r.isFl = true) (h : At n0 S0 M0 w0 st o a w g) (hq : qOp P r st.ev st.unit k) :
  ∃ v, ∀ w', (execOp a.eval o).run P w' = .ok (.value v) w' := by
 unfold resOp at hres
 split at hres
 ·next x ho => exact ⟨a.eval x, fun w' => by simp [execOp, ho]⟩
 ·next x ho => exact ⟨a.eval x, fun w' => by simp [execOp, ho]⟩
 ·next c x y ho =>
  simp only [oD, oB, oP, oS, guard_some] at hres
  obtain ⟨d, hd, _, _, C, hC, X, hX, Y, hY, rfl⟩ := hres
  have e := h.ev_ hC
  simp only [qOp] at hq
  unfold pickK at hq
  split at hq
  ·next t' b hv =>
   rw [hv] at e
   have hc := sc_val e
   cases b
   ·exact ⟨a.eval y, fun w' => by simp [execOp, ho, hc, asBool]⟩
   ·exact ⟨a.eval x, fun w' => by simp [execOp, ho, hc, asBool]⟩
  ·exact hq.elim
 ·next e x ho =>
  simp only [oD, oB, oP, oS, guard_some] at hres
  obtain ⟨d, hd, _, _, s, hs, X, hX, rfl⟩ := hres
  cases hfl
 ·next e ho =>
  simp only [oD, oB, guard_some] at hres
  obtain ⟨d, hd, _, _, hres⟩ := hres
  rw [zerOp_fl hres] at hfl
  cases hfl
 ·next t x ho =>
  simp only [oD, oB, oP, oS, guard_some] at hres
  obtain ⟨d, hd, _, _, s, hs, ag, hag, _, h1, X, hX, rfl⟩ := hres
  cases hfl
 ·next t p x ho =>
  simp only [oD, oB, oP, oS, guard_some] at hres
  obtain ⟨_, hd, s, hs, A, hA, X, hX, rfl⟩ := hres
  cases hfl
 ·next x ho =>
  simp only [oD, oB, oP, oS, guard_some] at hres
  obtain ⟨d, hd, _, _, X, hX, rfl⟩ := hres
  have e := h.ev_ hX
  simp only [qOp] at hq
  unfold nckK at hq
  split at hq
  ·next t' d j hv =>
   rw [hv] at e
   simp only [VRep, Rep, D.fits] at e
   obtain ⟨F, ⟨b, off, c, el, fr, F', h1, _⟩, h2, _⟩ := e
   rw [cells_one h2] at h1
   have h3 : a.eval x = .pointer (some ⟨b, off + j, none⟩) := by simpa using h1
   exact ⟨_, fun w' => by simp [execOp, ho, h3]; rfl⟩
  ·next t' b0 o0 d j hv =>
   rw [hv] at e
   simp only [VRep, Rep, D.fits] at e
   obtain ⟨F, ⟨_, b, off, c, el, fr, F', h1, _⟩, h2, _⟩ := e
   rw [cells_one h2] at h1
   have h3 : a.eval x = .pointer (some ⟨b, off + j, none⟩) := by simpa using h1
   exact ⟨_, fun w' => by simp [execOp, ho, h3]; rfl⟩
  ·next t' p0 hv =>
   rw [hv] at e
   have h3 := sc_val e
   exact ⟨_, fun w' => by simp [execOp, ho, h3]; rfl⟩
  ·next id el j hv =>
   rw [hv] at e
   simp only [VRep] at e
   obtain ⟨ow, nn, sz, es, b, _, _, _, _, h3⟩ := e
   exact ⟨_, fun w' => by simp [execOp, ho, h3]; rfl⟩
  ·next id el j isz el' j' hv =>
   rw [hv] at e
   simp only [VRep] at e
   obtain ⟨ow, nn, usz, es, b, c, ty, b', off', len', cap', _, _, _, _, _, _, h3⟩ := e
   exact ⟨_, fun w' => by simp [execOp, ho, h3]; rfl⟩
  ·next id j hv =>
   rw [hv] at e
   simp only [VRep] at e
   obtain ⟨_, _, b, _, _, h3⟩ := e
   exact ⟨_, fun w' => by simp [execOp, ho, h3]; rfl⟩
  ·exact hq.elim
 ·next op t x y u ho =>
  simp only [oD, oB, oP, guard_some] at hres
  obtain ⟨d, hd, _, _, hres⟩ := hres
  split at hres <;> (try simp only [oB, oS] at hres)
  ·obtain ⟨X, hX, Y, hY, rfl⟩ := hres
   cases hfl
  ·obtain ⟨X, hX, Y, hY, rfl⟩ := hres
   cases hfl
  ·next ht _ _ => obtain ⟨X, hX, Y, hY, rfl⟩ := hres; cases hfl
  ·obtain ⟨X, hX, Y, hY, rfl⟩ := hres; cases hfl
  ·obtain ⟨X, hX, Y, hY, rfl⟩ := hres; cases hfl
  ·obtain ⟨X, hX, Y, hY, rfl⟩ := hres; cases hfl
  ·split at hres <;> (try simp only [oB, oS] at hres)
   ·obtain ⟨X, hX, Y, hY, rfl⟩ := hres; cases hfl
   ·subst hres; cases hfl
  ·split at hres <;> (try simp only [oB, oS] at hres)
   ·obtain ⟨X, hX, Y, hY, rfl⟩ := hres; cases hfl
   ·subst hres; cases hfl
  ·subst hres; cases hfl
 ·next op t x ho =>
  simp only [oD, oB, oP, oS, guard_some] at hres
  obtain ⟨d, hd, _, _, X, hX, rfl⟩ := hres
  cases hfl
 ·next s t x ho =>
  simp only [oD, oB, oP, guard_some] at hres
  obtain ⟨d, hd, _, _, hres⟩ := hres
  split at hres <;> (try simp only [oB, oS] at hres)
  ·obtain ⟨X, hX, rfl⟩ := hres
   cases hfl
  ·split at hres <;> simp only [oB, oS] at hres
   ·obtain ⟨X, hX, rfl⟩ := hres
    cases hfl
   ·subst hres; cases hfl
  ·subst hres; cases hfl
 ·next t l c ho =>
  simp only [oD, oB, oP, oS, guard_some] at hres
  obtain ⟨d, hd, _, _, e, he, i, hi, z, hz, L, hL, C, hC, rfl⟩ := hres
  have ht : P.underlying t = some (.slice e) := by
   unfold elemOf at he
   split at he
   ·next e' h' => injection he with he; subst he; exact h'
   ·cases he
  cases hfl
 ·next t x lo hi ho =>
  simp only [oD, oB, oP, guard_some] at hres
  obtain ⟨d, hd, _, _, Lo, hLo, Hi, hHi, hres⟩ := hres
  have l1 : ∀ y, lo = some y → ∃ Y, Lo = some Y ∧ resX P 0 y = some Y := by
   rintro y rfl
   simp only [Option.map_eq_some_iff] at hLo
   obtain ⟨Y, h1, rfl⟩ := hLo
   exact ⟨Y, rfl, h1⟩
  have l2 : lo = none → Lo = none := by rintro rfl; simpa using hLo.symm
  have l3 : ∀ y, hi = some y → ∃ Y, Hi = some Y ∧ resX P 0 y = some Y := by
   rintro y rfl
   simp only [Option.map_eq_some_iff] at hHi
   obtain ⟨Y, h1, rfl⟩ := hHi
   exact ⟨Y, rfl, h1⟩
  have l4 : hi = none → Hi = none := by rintro rfl; simpa using hHi.symm
  split at hres <;> simp only [oB, oS] at hres
  ·obtain ⟨s, hs, X, hX, rfl⟩ := hres
   cases hfl
  ·obtain ⟨X, hX, rfl⟩ := hres
   cases hfl
  ·subst hres; cases hfl
 ·next t x lo hi mx ho =>
  simp only [oD, oB, oP, guard_some] at hres
  obtain ⟨d, hd, _, _, hres⟩ := hres
  split at hres
  ·next e ht =>
   split at hres
   ·simp only [oB, oS] at hres
    obtain ⟨s, hs, X, hX, rfl⟩ := hres
    cases hfl
   ·simp only [oS] at hres; subst hres; cases hfl
  ·simp only [oS] at hres; subst hres; cases hfl
 ·next fn first captured ho =>
  simp only [oD, oB, oP, guard_some] at hres
  obtain ⟨d, hd, _, _, hres⟩ := hres
  split at hres
  ·next f hf =>
   exact ⟨_, fun w' => by simp [execOp, ho, Instr.makeFunc]; rfl⟩
  ·simp only [oS] at hres; subst hres; cases hfl
 ·next t x i ho =>
  simp only [oD, oB, oP, guard_some] at hres
  obtain ⟨d, hd, _, _, hres⟩ := hres
  split at hres
  ·next fs ht =>
   simp only [oB, oS, guard_some] at hres
   obtain ⟨f, hf, z, hz, _, hz0, X, hX, rfl⟩ := hres
   have ex := h.ev_ hX
   have hrun : ∀ (b p : Nat) (w' : World), a.eval x = .pointer (some ⟨b, p, none⟩) → (execOp a.eval o).run P w' = .ok (.value (.pointer (some ⟨b, p + f.offset, none⟩))) w' := by
    intro b p w' hv
    have hz0 : z ≠ 0 := by simpa using hz0
    simp [execOp, ho, hv, Instr.fieldAt, run_underlying ht, hf, Instr.sureAddr, fieldPlace, run_sz hz, hz0, add_mid]
   simp only [qOp] at hq
   unfold faK at hq
   split at hq
   ·next t1 d' j e1 =>
    rw [e1] at ex
    obtain ⟨b, p, hv, _⟩ := pt_val ex
    exact ⟨_, fun w' => hrun _ _ w' hv⟩
   ·next t1 b0 o0 d' j e1 =>
    rw [e1] at ex
    obtain ⟨b, p, hv, _⟩ := pt_val (lc_un ex rfl).1
    exact ⟨_, fun w' => hrun _ _ w' hv⟩
   ·next id el j e1 =>
    rw [e1] at ex
    simp only [VRep] at ex
    obtain ⟨ow, nn, usz, es, b, r1, r2, r3, r4, hv⟩ := ex
    exact ⟨_, fun w' => hrun _ _ w' hv⟩
   ·next id el j isz el' j' e1 =>
    rw [e1] at ex
    simp only [VRep] at ex
    obtain ⟨ow, nn, usz, es, b, c, ty, b', off', len', cap', r1, r2, r3, r4, r5, r6, hv⟩ := ex
    exact ⟨_, fun w' => hrun _ _ w' hv⟩
   ·next id j e1 =>
    rw [e1] at ex
    simp only [VRep] at ex
    obtain ⟨sz, items, b, r1, r2, hv⟩ := ex
    exact ⟨_, fun w' => hrun _ _ w' hv⟩
   ·exact hq.elim
  ·cases hres
 ·next t x i ho =>
  simp only [oD, oB, oP, guard_some] at hres
  obtain ⟨d, hd, _, _, hres⟩ := hres
  split at hres
  ·next fs ht =>
   simp only [oB, oS, guard_some] at hres
   obtain ⟨f, hf, s, hs, ag, hag, _, h1, X, hX, rfl⟩ := hres
   cases hfl
  ·cases hres
 ·next t x i ho =>
  simp only [oD, oB, oP, guard_some] at hres
  obtain ⟨d, hd, _, _, hres⟩ := hres
  split at hres
  ·next e ht =>
   simp only [oB, oS] at hres
   obtain ⟨s, hs, X, hX, I, hI, rfl⟩ := hres
   cases hfl
  ·simp only [oS] at hres; subst hres; cases hfl
 ·next t x i ho =>
  simp only [oD, oB, oP, guard_some] at hres
  obtain ⟨d, hd, _, _, hres⟩ := hres
  split at hres
  ·next ht =>
   simp only [oB, oS] at hres
   obtain ⟨X, hX, I, hI, rfl⟩ := hres
   cases hfl
  ·simp only [oS] at hres; subst hres; cases hfl
 ·next x i ho =>
  simp only [oD, oB, oP, oS, guard_some] at hres
  obtain ⟨d, hd, _, _, X, hX, rfl⟩ := hres
  have ex := h.ev_ hX
  simp only [qOp] at hq
  unfold extK at hq
  split at hq
  ·next vs e1 =>
   rw [e1] at ex
   simp only [VRep] at ex
   obtain ⟨xs, hv, hl⟩ := ex
   have hlen : ∀ (vs : List AV) (xs : List Value), VRepL w.heap st.us g vs xs → xs.length = vs.length := by
    intro vs
    induction vs with
    | nil => intro xs hl; simp only [VRepL] at hl; simp [hl]
    | cons y vs ih => intro xs hl; simp only [VRepL] at hl; obtain ⟨v, r, rfl, _, h2⟩ := hl; simp [ih r h2]
   have hlt : i < xs.size := by have := hlen vs _ hl; simp at this; have := hq.1; omega
   exact ⟨xs[i], fun w' => by simp [execOp, ho, hv, Instr.extract, hlt]⟩
  ·exact hq.elim
 ·next t l ps ho =>
  simp only [oD, oB, oP, oS, guard_some] at hres
  obtain ⟨d, hd, _, _, e, he, s, hs, z, hz, L, hL, rfl⟩ := hres
  rw [bsOp_fl] at hfl
  cases hfl
 ·next t ps ho =>
  simp only [oD, oB, oP, guard_some] at hres
  obtain ⟨d, hd, _, _, hres⟩ := hres
  split at hres
  ·next fs ht =>
   simp only [oB, oS] at hres
   obtain ⟨_, _, z, hz, L, hL, rfl⟩ := hres
   cases hfl
  ·simp only [oS] at hres; subst hres; cases hfl
 ·next c ho =>
  split at hres
  ·next f hc =>
   simp only [oD, oB, guard_some] at hres
   obtain ⟨_, _, _, hl, Xs, hXs, hres⟩ := hres
   split at hres
   ·split at hres
    ·simp only [oP, oS] at hres; subst hres; cases hfl
    ·cases hres
   split at hres
   ·split at hres
    ·simp only [oP, oS] at hres; subst hres; cases hfl
    ·cases hres
   split at hres
   ·split at hres
    ·simp only [oP, oS] at hres; subst hres; cases hfl
    ·cases hres
   split at hres
   ·split at hres
    ·simp only [oP, oS] at hres; subst hres; cases hfl
    ·cases hres
   split at hres
   ·simp only [oP, oS] at hres; subst hres; cases hfl
   ·simp only [oP, oS] at hres
    subst hres
    cases hfl
  ·next x _ hc =>
   simp only [oD, oB, oP, oS, guard_some] at hres
   obtain ⟨_, _, _, hl, X, hX, Xs, hXs, rfl⟩ := hres
   cases wv <;> cases hfl
  ·next hc =>
   simp only [oD, oB, guard_some] at hres
   obtain ⟨d, hd, _, _, hres⟩ := hres
   split at hres
   ·next x t ha hta =>
    have ha' : c.args = #[x] := by apply Array.ext'; simpa using ha
    have hta' : c.argTypes = #[t] := by apply Array.ext'; simpa using hta
    split at hres <;> simp only [oB, oP, oS] at hres
    ·obtain ⟨X, hX, rfl⟩ := hres
     cases hfl
    ·obtain ⟨X, hX, rfl⟩ := hres
     cases hfl
    ·subst hres; cases hfl
   ·cases hres
  ·next hc =>
   simp only [oD, oB, guard_some] at hres
   obtain ⟨d, hd, _, _, hres⟩ := hres
   split at hres
   ·next x y t u ha hta =>
    have ha' : c.args = #[x, y] := by apply Array.ext'; simpa using ha
    simp only [oB, oP, oS] at hres
    obtain ⟨X, hX, Y, hY, rfl⟩ := hres
    cases hfl
   ·cases hres
  ·next hc =>
   simp only [oD, oB, guard_some] at hres
   obtain ⟨d, hd, _, _, hres⟩ := hres
   split at hres
   ·next x y t u ha hta =>
    have ha' : c.args = #[x, y] := by apply Array.ext'; simpa using ha
    simp only [oB, oP, oS] at hres
    obtain ⟨X, hX, Y, hY, rfl⟩ := hres
    cases hfl
   ·cases hres
  ·next hc =>
   simp only [oD, oB, guard_some] at hres
   obtain ⟨d, hd, _, _, hres⟩ := hres
   split at hres
   ·next s x t u ha hta =>
    have ha' : c.args = #[s, x] := by apply Array.ext'; simpa using ha
    have hta' : c.argTypes = #[t, u] := by apply Array.ext'; simpa using hta
    split at hres <;> simp only [oB, oP, oS, guard_some] at hres
    ·obtain ⟨i, hi, _, htu, z, hz, X, hX, Y, hY, rfl⟩ := hres
     cases wv <;> cases hfl
    ·subst hres; cases hfl
   ·cases hres
  ·next hc =>
   simp only [oD, oB, guard_some] at hres
   obtain ⟨_, _, hres⟩ := hres
   split at hres
   ·split at hres <;> simp only [oB, oP, oS, guard_some] at hres
    ·obtain ⟨s, hs, _, htu, X, hX, Y, hY, rfl⟩ := hres
     cases hfl
    ·subst hres; cases hfl
   ·cases hres
  ·simp only [oP, oS] at hres; subst hres; cases hfl
 ·simp only [oP, oS] at hres; subst hres; cases hfl

def isQi (R : List RO) (i : Nat) : Bool := match R[i]? with | some r => r.op.isQ | none => false
def flOk (ops : Array Oper) (R : List RO) (i : Nat) : Bool :=
 match ops[i]?, R[i]? with
 | some o, some r => r.g.isNone && r.op.isFl && (List.range ops.size).all fun j => j == i || (waits ops i).contains j || (match ops[j]? with | some oj => (waits ops j).contains i || o.apart ops oj | none => true)
 | _, _ => false
def chainOk (ops : Array Oper) : List Nat → Bool
 | e :: e' :: r => (waits ops e').contains e && decide (e < e') && chainOk ops (e' :: r)
 | _ => true

def nset (ops : Array Oper) (R : List RO) : List Nat := (List.range R.length).foldl (fun acc i => if isQi R i && (waits ops i).all (fun j => acc.contains j) then i :: acc else acc) []
def NL (S : List Nat) (R : List RO) : List Nat := (List.range R.length).filter fun i => S.contains i
def EL (S : List Nat) (R : List RO) : List Nat := (List.range R.length).filter fun i => !S.contains i

def ahead (S : List Nat) (ops : Array Oper) (R : List RO) (e k : Nat) : Bool :=
 !flOk ops R k || (waits ops e).contains k || (List.range R.length).any fun j => decide (k < j) && S.contains j && !flOk ops R j && (waits ops j).contains k
def drawOkS (S : List Nat) (ops : Array Oper) (R : List RO) : Bool :=
 noDup (R.filterMap (·.op.dst)) && (R.length == ops.size) && Region.noSelect ops &&
 match EL S R with
 | [] => false
 | e :: es => chainOk ops (e :: es) && (List.range R.length).all fun i =>
   (waits ops i).all (· < i) && (!S.contains i || (isQi R i && (waits ops i).all (fun j => S.contains j) && (match R[i]? with | some r => r.slots.all (slotOk ops R i) | none => true) &&
    (flOk ops R i || (waits ops e).contains i || (List.range R.length).any fun k => decide (i < k) && S.contains k && ahead S ops R e k && (waits ops k).contains i)))
def drawOkE (ops : Array Oper) (R : List RO) : Bool := drawOkS (nset ops R) ops R
def ordE (ops : Array Oper) (R : List RO) : List RO := ((NL (nset ops R) R).map fun i => R.getD i default) ++ ((EL (nset ops R) R).map fun i => R.getD i default)

theorem isQi_some {R : List RO} {i : Nat} {r : RO} (h : R[i]? = some r) : isQi R i = r.op.isQ := by simp [isQi, h]

def bef (N : List Nat) (i : Nat) : List Nat := (N.filter fun j => decide (j < i)).reverse
theorem mem_bef {N : List Nat} {i j : Nat} : j ∈ bef N i ↔ j ∈ N ∧ j < i := by simp [bef]

structure DrawnE (P : Program) (wv : Wv) (ops : Array Oper) (R : List RO) (st0 : St) (V : Nat → Rs) (S N : List Nat) : Prop where
 len : R.length = ops.size
 res : ∀ (i : Nat) (o : Oper), ops[i]? = some o → ∃ r, R[i]? = some r ∧ resRO P wv st0.n ops o = some r
 inj : ∀ i j t, dOf R i = some t → dOf R j = some t → i = j
 acyc : ∀ i, ∀ j ∈ waits ops i, j < i
 mem : ∀ i, i ∈ N ↔ i < R.length ∧ S.contains i = true
 isQ : ∀ i ∈ N, isQi R i = true
 nnd : N.Nodup
 nw : ∀ i ∈ N, ∀ j ∈ waits ops i, j ∈ N
 slot : ∀ (i : Nat) (r : RO) (t : Nat), i ∈ N → R[i]? = some r → t ∈ r.slots → ∀ j, dOf R j = some t → (j < i ∧ j ∈ waits ops i) ∨ (i < j ∧ i ∈ waits ops j)
 step : ∀ (i : Nat) (r : RO), i ∈ N → R[i]? = some r → StepDet P r (execL st0 (dOf R) V (bef N i)) (V i)
 keys : ((execL st0 (dOf R) V N.reverse).us.map (·.1)).Nodup

theorem perm_partE {N X : List Nat} (hN : N.Nodup) (hn : X.Nodup) (hl : ∀ i ∈ X, i ∈ N) : X.Perm (N.reverse.filter (fun i => decide (i ∈ X))) :=
 (List.perm_ext_iff_of_nodup hn (((List.reverse_perm N).nodup_iff.2 hN).filter _)).2 fun a => by
  simp only [List.mem_filter, List.mem_reverse, decide_eq_true_eq]
  exact ⟨fun h => ⟨hl a h, h⟩, fun h => h.2⟩

theorem keys_partE {st0 : St} {D : Nat → Option Nat} {V : Nat → Rs} {N : List Nat} (hN : N.Nodup) (hf : ((execL st0 D V N.reverse).us.map (·.1)).Nodup) {X : List Nat} (hn : X.Nodup) (hl : ∀ i ∈ X, i ∈ N) :
  ((execL st0 D V X).us.map (·.1)).Nodup ∧ ∀ x ∈ (execL st0 D V X).us, x ∈ (execL st0 D V N.reverse).us := by
 rw [execL_us] at hf
 simp only [execL_us]
 have hp := perm_partE hN hn hl
 have h1 : ((X.flatMap fun i => (V i).2) ++ st0.us).Perm (((N.reverse.filter (fun i => decide (i ∈ X))).flatMap fun i => (V i).2) ++ st0.us) := (hp.flatMap_right _).append_right _
 have h2 : (((N.reverse.filter (fun i => decide (i ∈ X))).flatMap fun i => (V i).2) ++ st0.us).Sublist ((N.reverse.flatMap fun i => (V i).2) ++ st0.us) := (sub_flat List.filter_sublist).append (List.Sublist.refl _)
 exact ⟨(h1.map _).nodup_iff.2 ((h2.map _).nodup hf), fun x hx => h2.subset (h1.mem_iff.1 hx)⟩

theorem step_us {r : RO} {s : St} {v : Rs} (hs : StepDet P r s v) : v.2 = [] ∨ s.fresh v.2 = true := by
 unfold StepDet at hs
 split at hs
 ·exact hs.2
 ·next t b _ =>
  rcases hs with ⟨tk, c, _, h1, h2⟩ | ⟨_, h2⟩
  ·by_cases e : c = b
   ·exact (h1 e).2
   ·exact .inl (by rw [h2 (by cases c <;> cases b <;> simp_all)])
  ·exact .inl (by rw [h2])

theorem lex_nodup : ∀ {Rl : List RO} {rl : List Rs} {s s' : St}, Lex P Rl rl s s' → (s.us.map (·.1)).Nodup → (s'.us.map (·.1)).Nodup
 | [], [], s, s', h, hn => by simp only [Lex] at h; subst h; exact hn
 | R :: Rl, r :: rl, s, s', h, hn => by
  simp only [Lex] at h
  refine lex_nodup h.2 ?_
  have := nodup_of_fresh hn (step_us h.1)
  have e : (appS s R.op.dst r).us = r.2 ++ s.us := by unfold appS; cases R.op.dst <;> rfl
  rw [e]
  exact this
 | [], _ :: _, _, _, h, _ => by simp [Lex] at h
 | _ :: _, [], _, _, h, _ => by simp [Lex] at h

theorem lexI {D : Nat → Option Nat} {V : Nat → Rs} {st0 : St} {F : Nat → RO} : ∀ {N : List Nat} {rl : List Rs} {s s' : St} {L : List Nat}, (∀ i ∈ N, D i = (F i).op.dst) → Lex P (N.map F) rl s s' → s = execL st0 D V L → N.map V = rl →
  s' = execL st0 D V (N.reverse ++ L) ∧ ∀ (p : Nat) (hp : p < N.length), StepDet P (F N[p]) (execL st0 D V ((N.take p).reverse ++ L)) (V N[p])
 | [], rl, s, s', L, _, h, e, hV => by
  simp only [lN] at hV h
  subst hV
  simp only [Lex] at h
  subst h
  exact ⟨by simpa using e, by simp⟩
 | i :: N, rl, s, s', L, hD, h, e, hV => by
  simp only [lC] at hV h
  subst hV
  simp only [Lex] at h
  have e1 : appS s (F i).op.dst (V i) = execL st0 D V (i :: L) := by simp only [execL]; rw [← e, hD i (by simp)]
  obtain ⟨h1, h2⟩ := lexI (fun j hj => hD j (by simp [hj])) h.2 e1 rfl
  refine ⟨by simpa using h1, fun p hp => ?_⟩
  cases p with
  | zero => simpa [← e] using h.1
  | succ p => simpa using h2 p (by simpa using hp)

theorem take_bef : ∀ {N : List Nat}, N.Pairwise (· < ·) → ∀ (p : Nat) (hp : p < N.length), (N.take p).reverse = bef N N[p] := by
 intro N hN p hp
 unfold bef
 congr 1
 have key : ∀ {N : List Nat}, N.Pairwise (· < ·) → ∀ (p : Nat) (hp : p < N.length), N.take p = N.filter (fun j => decide (j < N[p])) := by
  intro N
  induction N with
  | nil => intro _ p hp; simp at hp
  | cons x N ih =>
   intro h p hp
   rw [List.pairwise_cons] at h
   cases p with
   | zero =>
    simp only [List.take_zero, List.getElem_cons_zero]
    symm
    rw [List.filter_eq_nil_iff]
    intro y hy
    rcases List.mem_cons.1 hy with rfl | hy
    ·simp
    ·have := h.1 y hy; simp; omega
   | succ p =>
    have hp' : p < N.length := by simpa using hp
    simp only [List.take_succ_cons, List.getElem_cons_succ]
    rw [List.filter_cons_of_pos (by have := h.1 N[p] (List.getElem_mem hp'); simpa using this), ih h.2 p hp']
 exact key hN p hp

theorem NL_sorted (S : List Nat) (R : List RO) : (NL S R).Pairwise (· < ·) := List.Pairwise.filter _ List.pairwise_lt_range
theorem mem_NL {S : List Nat} {R : List RO} {i : Nat} : i ∈ NL S R ↔ i < R.length ∧ S.contains i = true := by simp [NL]
theorem mem_EL {S : List Nat} {R : List RO} {i : Nat} : i ∈ EL S R ↔ i < R.length ∧ S.contains i = false := by simp [EL]
theorem sorted_nodup {l : List Nat} (h : l.Pairwise (· < ·)) : l.Nodup := h.imp fun h => Nat.ne_of_lt h

theorem vcOps_append {K : Exit → St → Prop} : ∀ {A B : List RO} {st : St}, vcOps P (A ++ B) st K = vcOps P A st (fun _ s => vcOps P B s K)
 | [], _, _ => rfl
 | ⟨none, r⟩ :: A, B, st => by
  simp only [List.cons_append, vcOps]
  congr 1
  funext s
  exact vcOps_append
 | ⟨some (t, b), r⟩ :: A, B, st => by
  simp only [List.cons_append, vcOps]
  rw [vcOps_append]
  congr 1
  congr 1
  funext s
  exact vcOps_append

theorem slots_sameE {ops : Array Oper} {R : List RO} {st : St} {V : Nat → Rs} {S N X : List Nat} {listed : Array Bool} {i t : Nat} {r : RO} (hd : DrawnE P wv ops R st V S N) (h : Come P ops R X listed) (hX : ∀ i ∈ X, i ∈ N) (hi : i ∈ N) (hr : R[i]? = some r)
  (hw : ∀ j ∈ waits ops i, j ∈ X) (hn : i ∉ X) (ht : t ∈ r.slots) : lk (execL st (dOf R) V X).env t = lk (execL st (dOf R) V (bef N i)).env t := by
 have a := execL_lk (st0 := st) (V := V) hd.inj (L := X) (t := t)
 have b := execL_lk (st0 := st) (V := V) hd.inj (L := bef N i) (t := t)
 by_cases he : ∃ j, dOf R j = some t
 ·obtain ⟨j, hj⟩ := he
  rcases hd.slot i r t hi hr ht j hj with ⟨h1, h2⟩ | ⟨h1, h2⟩
  ·rw [a.1 j (hw j h2) hj, b.1 j (mem_bef.2 ⟨hd.nw i hi j h2, h1⟩) hj]
  ·have hx : j ∉ X := fun hx => hn (h.closed j hx i h2)
   rw [a.2 fun k hk e => hx (hd.inj k j t e hj ▸ hk), b.2 fun k hk e => by
    have := hd.inj k j t e hj
    have := (mem_bef.1 hk).2
    omega]
 ·rw [a.2 fun k _ e => he ⟨k, e⟩, b.2 fun k _ e => he ⟨k, e⟩]

theorem at_soundE {ops : Array Oper} {R : List RO} {st : St} {V : Nat → Rs} {S N X : List Nat} {listed : Array Bool} {i : Nat} {r : RO} {o : Oper} {a : Act} {w : World}
  (hd : DrawnE P wv ops R st V S N) (h : Come P ops R X listed) (hX : ∀ i ∈ X, i ∈ N) (hi : i ∈ N) (hr : R[i]? = some r) (hres : resRO P wv st.n ops o = some r)
  (hw : ∀ j ∈ waits ops i, j ∈ X) (hn : i ∉ X) (hs : Sat n0 S0 M0 w0 (execL st (dOf R) V X) a w) :
  ∃ op, resOp P wv st.n o = some op ∧ r.op = op ∧ op.isQ = true ∧ op.dst = o.dst ∧ (∀ d, o.dst = some d → d < (execL st (dOf R) V X).n) ∧ (∃ g, At n0 S0 M0 w0 (execL st (dOf R) V X) o a w g) ∧ (∀ t ∈ r.slots, (execL st (dOf R) V X).get t = (execL st (dOf R) V (bef N i)).get t) ∧
   (QD P r.op (execL st (dOf R) V (bef N i)) (V i) → qOp P r.op (execL st (dOf R) V X).ev (execL st (dOf R) V X).unit (fun v u => v = (V i).1 ∧ u = (V i).2)) := by
 have hXn : (execL st (dOf R) V X).n = st.n := execL_n
 have hget : ∀ t ∈ r.slots, (execL st (dOf R) V X).get t = (execL st (dOf R) V (bef N i)).get t := fun t ht => slots_sameE hd h hX hi hr hw hn ht
 have hkX := keys_partE hd.nnd hd.keys h.nd hX
 have hbn : (bef N i).Nodup := (List.reverse_perm _).nodup_iff.2 (hd.nnd.filter _)
 have hkD := keys_partE (X := bef N i) hd.nnd hd.keys hbn (fun j hj => (mem_bef.1 hj).1)
 have hres0 := hres
 unfold resRO at hres0
 simp only [oD, oB, guard_some] at hres0
 obtain ⟨op, hop, _, h1, _, h2, hres0⟩ := hres0
 have hdl : ∀ d, o.dst = some d → d < (execL st (dOf R) V X).n := by
  intro d hdd
  rw [hXn]
  rw [hdd] at h2
  simpa using h2
 have hrop : r.op = op := by
  split at hres0
  ·simp only [oP, oS] at hres0; rw [← hres0]
  ·simp only [oB, oP, oS] at hres0
   obtain ⟨_, _, _, _, hres0⟩ := hres0
   rw [← hres0]
 have hQ : op.isQ = true := by
  rw [← hrop, ← isQi_some hr]
  exact hd.isQ i hi
 obtain ⟨g, hu, hv⟩ := hs.gh
 refine ⟨op, hop, hrop, hQ, h1, hdl, ⟨g, hs, hu, hv, hdl⟩, hget, fun hq => ?_⟩
 have hev : ∀ x ∈ r.op.xs, (execL st (dOf R) V X).ev x = (execL st (dOf R) V (bef N i)).ev x := by
  intro x hx
  cases x with
  | c d => rfl
  | t n => exact hget n (List.mem_append_left _ (List.mem_filterMap.2 ⟨_, hx, rfl⟩))
 refine qOp_local hq.1 hev ?_
 intro x hx k u hk hu'
 rw [← hev x hx] at hk
 cases x with
 | c d => simp only [St.ev, litAV] at hk; split at hk <;> simp [AV.ids] at hk
 | t n =>
  obtain ⟨u', hm⟩ := vrep_ids (hv n) k hk
  have h3 := hkX.2 _ hm
  have h4 := hkD.2 _ (mem_of_lu hu')
  have e1 := lu_of_mem hd.keys h3
  have e2 := lu_of_mem hd.keys h4
  rw [e1] at e2
  injection e2 with e2
  subst e2
  exact lu_of_mem hkX.1 hm

theorem one_soundE {ops : Array Oper} {R : List RO} {st : St} {V : Nat → Rs} {S N X : List Nat} {listed : Array Bool} {i : Nat} {r : RO} {o : Oper} {a : Act} {w : World} {Q : Exit → Act → World → Prop}
  (hd : DrawnE P wv ops R st V S N) (h : Come P ops R X listed) (hX : ∀ i ∈ X, i ∈ N) (hi : i ∈ N) (ho : ops[i]? = some o) (hr : R[i]? = some r) (hres : resRO P wv st.n ops o = some r)
  (hw : ∀ j ∈ waits ops i, j ∈ X) (hn : i ∉ X) (hs : Sat n0 S0 M0 w0 (execL st (dOf R) V X) a w) :
  wpOp P ops Q i (fun a w => Sat n0 S0 M0 w0 (execL st (dOf R) V (i :: X)) a w) a w := by
 obtain ⟨op, hop, hrop, hQ, h1, hdl, ⟨g, hat⟩, hget, hqq⟩ := at_soundE hd h hX hi hr hres hw hn hs
 have hXn : (execL st (dOf R) V X).n = st.n := execL_n
 have hkN := keys_partE hd.nnd hd.keys (X := i :: X) (List.nodup_cons.2 ⟨hn, h.nd⟩) (fun j hj => (List.mem_cons.1 hj).elim (fun e => e ▸ hi) (hX j))
 have hdst : dOf R i = r.op.dst := by simp [dOf, hr]
 have hfr : (V i).2 = [] ∨ (execL st (dOf R) V X).fresh (V i).2 = true := .inr (fresh_of (by
  have e : (execL st (dOf R) V (i :: X)).us = (V i).2 ++ (execL st (dOf R) V X).us := by simp [execL_us]
  rw [← e]
  exact hkN.1))
 have hexec : execL st (dOf R) V (i :: X) = appS (execL st (dOf R) V X) r.op.dst (V i) := by simp only [execL]; rw [hdst]
 have hstep := hd.step i r hi hr
 have run : ∀ {Q' : Exit → Act → World → Prop}, QD P r.op (execL st (dOf R) V (bef N i)) (V i) → o.wp P a w (fun a w => Sat n0 S0 M0 w0 (execL st (dOf R) V (i :: X)) a w) Q' := by
  intro Q' hq
  have hq' := hqq hq
  rw [hrop] at hq'
  have ⟨h5, h6⟩ := q_sound (Q' := Q') (n := st.n) hop hQ hXn hat hq'
  refine Oper.wp_mono ?_ h5
  rintro a' w' ⟨av, us, ⟨rfl, rfl⟩, hS⟩
  rw [hexec, hrop, h6]
  exact hS hfr
 have hu := hat.us
 have hv := hat.rep
 have hres0 := hres
 unfold resRO at hres0
 simp only [oD, oB, guard_some] at hres0
 obtain ⟨op', hop', _, _, _, _, hres0⟩ := hres0
 rw [hop] at hop'
 injection hop' with hop'
 subst hop'
 have skip : V i = (.tup [], []) → Sat n0 S0 M0 w0 (execL st (dOf R) V (i :: X)) (a.put o.dst undef) w := by
  intro hV
  rw [hexec, hV, hrop, h1]
  unfold appS
  rw [addUs_nil]
  exact sat_set hs hu hv hdl undef_rep
 unfold wpOp
 rw [ho]
 simp only
 split at hres0
 ·next hg =>
  simp only [oP, oS] at hres0
  subst hres0
  have : Region.wanted o (yielded ops a.tmps) = true := by simp [Region.wanted, hg]
  rw [this, if_pos rfl]
  exact .inl (run hstep)
 ·next j b hg =>
  simp only [oB, oP, oS] at hres0
  obtain ⟨p, hp, t, ht, rfl⟩ := hres0
  rcases hstep with ⟨tk, c, hc, hy, hno⟩ | ⟨hc, hno⟩
  ·rw [← hget t (List.mem_append_right _ (by simp))] at hc
   have hvt := hv t
   have hc' : lk (execL st (dOf R) V X).env t = .im tk (.sc (.bool c)) := hc
   rw [hc'] at hvt
   have hval := sc_val hvt
   have hyy := yielded_eq (ops := ops) hp ht hval
   have hwt : Region.wanted o (yielded ops a.tmps) = (some c == some b) := by simp [Region.wanted, hg, hyy]
   rw [hwt]
   by_cases e : c = b
   ·rw [if_pos (by simp [e])]
    exact .inl (run (hy e))
   ·rw [if_neg (by simp [e])]
    exact skip (hno (by cases c <;> cases b <;> simp_all))
  ·rw [← hget t (List.mem_append_right _ (by simp))] at hc
   have hvt := hv t
   have hc' : lk (execL st (dOf R) V X).env t = .tup [] := hc
   rw [hc'] at hvt
   have hwt : Region.wanted o (yielded ops a.tmps) = false := by simp [Region.wanted, hg, yielded_undef (ops := ops) hp ht (undef_val hvt)]
   rw [hwt, if_neg (by simp)]
   exact skip hno

theorem chain_spec {ops : Array Oper} : ∀ {l : List Nat}, chainOk ops l = true → l.Pairwise (· < ·) ∧ ∀ (p : Nat) (hp : p + 1 < l.length), l[p] ∈ waits ops l[p + 1]
 | [], _ => ⟨List.Pairwise.nil, by simp⟩
 | [e], _ => ⟨by simp, by simp⟩
 | e :: e' :: r, h => by
  simp only [chainOk, bA, List.contains_eq_mem, decide_eq_true_eq] at h
  obtain ⟨i1, i2⟩ := chain_spec h.2
  refine ⟨?_, fun p hp => ?_⟩
  ·rw [List.pairwise_cons]
   refine ⟨fun x hx => ?_, i1⟩
   rcases List.mem_cons.1 hx with rfl | hx
   ·exact h.1.2
   ·exact Nat.lt_trans h.1.2 ((List.pairwise_cons.1 i1).1 x hx)
  ·cases p with
   | zero => exact h.1.1
   | succ p => exact i2 p (by simpa using hp)

theorem ephase {ops : Array Oper} {R : List RO} {n : Nat} {K : Exit → St → Prop} (hlen : R.length = ops.size) (hR : ∀ (i : Nat) (o : Oper), ops[i]? = some o → ∃ r, R[i]? = some r ∧ resRO P wv n ops o = some r)
  (acyc : ∀ i, ∀ j ∈ waits ops i, j < i) : ∀ (es : List Nat) (listed : Array Bool) (s : St) (a : Act) (w : World), listed.size = ops.size → (∀ j, j < ops.size → (listed.getD j true = true ↔ j ∉ es)) → chainOk ops es = true → (∀ e ∈ es, e < ops.size) →
  Sat n0 S0 M0 w0 s a w → s.n = n → vcOps P (es.map fun i => R.getD i default) s K → wpAny P .any ops (fun e a w => e = .normal ∧ Post n0 S0 M0 w0 n K e a w) es.length listed a w
 | [], listed, s, a, w, hsz, hli, _, _, hs, hn, hq => by
  refine wpAny_done ?_ ⟨rfl, s, hn, hq, hs⟩ 0
  rw [List.eq_nil_iff_forall_not_mem]
  intro i hi
  obtain ⟨h1, o, ho, _⟩ := mem_ready.1 hi
  have := (hli i (Array.getElem?_eq_some_iff.1 ho).1).2 (by simp)
  rw [this] at h1; cases h1
 | e :: es, listed, s, a, w, hsz, hli, hch, hlt, hs, hn, hq => by
  obtain ⟨hso, hwt⟩ := chain_spec hch
  have hso' := List.pairwise_cons.1 hso
  have hlist : ∀ j, j < ops.size → j ∉ e :: es → listed.getD j false = true := by
   intro j hj hne
   have := (hli j hj).2 hne
   rw [Array.getD_eq_getD_getElem?] at this ⊢
   rw [← hsz] at hj
   rw [Array.getElem?_eq_getElem hj] at this ⊢
   exact this
  have hele := hlt e (by simp)
  have hready : e ∈ Region.ready .any ops listed := by
   rw [mem_ready]
   refine ⟨?_, ops[e], by simp [hele], fun x hx hb => ?_⟩
   ·cases hc : listed.getD e true with
    | false => rfl
    | true => exact absurd (by simp) ((hli e hele).1 hc)
   ·have hw : x.on ∈ waits ops e := by
     simp only [waits, Array.getElem?_eq_getElem hele, direct]
     exact List.mem_map.2 ⟨x, List.mem_filter.2 ⟨by simpa using hx, hb⟩, rfl⟩
    have hl := acyc e _ hw
    refine hlist _ (by omega) fun hm => ?_
    rcases List.mem_cons.1 hm with h1 | h1
    ·omega
    ·have := hso'.1 _ h1; omega
  have honly : ∀ i ∈ Region.ready .any ops listed, i = e := by
   intro i hi
   obtain ⟨h1, o, ho, h2⟩ := mem_ready.1 hi
   have hio := (Array.getElem?_eq_some_iff.1 ho).1
   have hie : i ∈ e :: es := by
    refine Classical.byContradiction fun hne => ?_
    rw [(hli i hio).2 hne] at h1; cases h1
   rcases List.mem_cons.1 hie with h3 | h3
   ·exact h3
   ·exfalso
    obtain ⟨q, hq1, hq2⟩ := List.mem_iff_getElem.1 h3
    have hw := hwt q (by simp; omega)
    have e1 : (e :: es)[q + 1]'(by simp; omega) = i := by simpa using hq2
    rw [e1] at hw
    have hpre : (e :: es)[q]'(by simp; omega) ∈ e :: es := List.getElem_mem _
    generalize (e :: es)[q]'(by simp; omega) = p at hw hpre
    simp only [waits, ho, direct] at hw
    obtain ⟨x, hx, rfl⟩ := List.mem_map.1 hw
    obtain ⟨hx1, hx2⟩ := List.mem_filter.1 hx
    have h4 := h2 x (by simpa using hx1) hx2
    have hps := hlt _ hpre
    have h5 : listed.getD x.on true = true := by
     rw [Array.getD_eq_getD_getElem?] at h4 ⊢
     rw [← hsz] at hps
     rw [Array.getElem?_eq_getElem hps] at h4 ⊢
     exact h4
    exact (hli _ hps).1 h5 hpre
  refine ⟨fun h0 => (by rw [h0] at hready; cases hready), fun i hi => ?_⟩
  obtain rfl := honly i hi
  obtain ⟨r, hr, hres⟩ := hR i ops[i] (by simp [hele])
  have hget : R.getD i default = r := by simp [List.getD_eq_getElem?_getD, hr]
  simp only [lC, hget] at hq
  have hq' : match r.g with | none => vcOp P r.op s (kops P (es.map fun i => R.getD i default) K) | some (t, b) => grdK (s.get t) b (vcOp P r.op s (kops P (es.map fun i => R.getD i default) K)) (kops P (es.map fun i => R.getD i default) K (s.setO r.op.dst (.tup []))) := by
   obtain ⟨g, op⟩ := r
   cases g with
   | none => exact hq
   | some x => exact hq
  rw [← hn] at hres
  have keyr := ro_sound (Q' := fun e a w => e = .normal ∧ Post n0 S0 M0 w0 n K e a w) hres hs hq'
  have next : ∀ {a' : Act} {w' : World}, EPost n0 S0 M0 w0 s.n (kops P (es.map fun i => R.getD i default) K) a' w' → wpAny P .any ops (fun e a w => e = .normal ∧ Post n0 S0 M0 w0 n K e a w) es.length (listed.setIfInBounds i true) a' w' := by
   rintro a' w' ⟨s', hn', hf, hs'⟩
   refine ephase hlen hR acyc es _ s' a' w' (by simpa using hsz) ?_ ?_ (fun e he => hlt e (by simp [he])) hs' (hn'.trans hn) hf
   ·intro j hj
    by_cases hji : i = j
    ·subst hji
     have hs : i < listed.size := by rw [hsz]; exact hele
     have hni : i ∉ es := fun hm => Nat.lt_irrefl _ (hso'.1 i hm)
     simp [Array.getD_eq_getD_getElem?, hs, hni]
    ·rw [getD_set_ne _ hji, hli j hj]
     simp [Ne.symm hji]
   ·cases es with
    | nil => rfl
    | cons e' r' =>
     simp only [chainOk, bA] at hch
     exact hch.2
  unfold wpOp
  rw [show ops[i]? = some ops[i] by simp [hele]]
  simp only
  split
  ·next hw => exact .inl (Oper.wp_mono (fun a' w' h => next h) (keyr.1 hw))
  ·next hw => exact next (keyr.2 (by simpa using hw))

theorem drawnE_any {ops : Array Oper} {R : List RO} {st : St} {V : Nat → Rs} {K : Exit → St → Prop} {S : List Nat} {e : Nat} {es : List Nat} (hd : DrawnE P wv ops R st V S (NL S R)) (hE : EL S R = e :: es) (hch : chainOk ops (e :: es) = true) (hns : Region.noSelect ops = true)
  (hcov : ∀ i ∈ NL S R, flOk ops R i = true ∨ i ∈ waits ops e ∨ ∃ k ∈ NL S R, i < k ∧ (flOk ops R k = false ∨ k ∈ waits ops e ∨ ∃ j ∈ NL S R, k < j ∧ flOk ops R j = false ∧ k ∈ waits ops j) ∧ i ∈ waits ops k)
  (hend : ∀ a w, Sat n0 S0 M0 w0 (execL st (dOf R) V (NL S R).reverse) a w → vcOps P ((e :: es).map fun i => R.getD i default) (execL st (dOf R) V (NL S R).reverse) K) : ∀ (fuel : Nat) (X : List Nat) (listed : Array Bool) (a : Act) (w : World),
  Come P ops R X listed → (∀ i ∈ X, i ∈ NL S R) → fuel + X.length = ops.size → Sat n0 S0 M0 w0 (execL st (dOf R) V X) a w → wpAny P .any ops (fun e a w => e = .normal ∧ Post n0 S0 M0 w0 st.n K e a w) fuel listed a w := by
 have hel : e < ops.size := by
  have : e ∈ EL S R := by rw [hE]; simp
  rw [← hd.len]; exact (mem_EL.1 this).1
 have heN : e ∉ NL S R := by
  have : e ∈ EL S R := by rw [hE]; simp
  intro h
  have h1 := (mem_EL.1 this).2
  have h2 := (mem_NL.1 h).2
  rw [h1] at h2
  cases h2

 have fin : ∀ (fuel : Nat) (X : List Nat) (listed : Array Bool) (a : Act) (w : World), Come P ops R X listed → (∀ i ∈ X, i ∈ NL S R) → fuel + X.length = ops.size → Sat n0 S0 M0 w0 (execL st (dOf R) V X) a w → (∀ i ∈ NL S R, i ∈ X) →
   wpAny P .any ops (fun e a w => e = .normal ∧ Post n0 S0 M0 w0 st.n K e a w) fuel listed a w := by
  intro fuel X listed a w h hX hl hs hall
  have hp : X.Perm (NL S R).reverse := (List.perm_ext_iff_of_nodup h.nd ((List.reverse_perm _).nodup_iff.2 hd.nnd)).2 fun i => by
   rw [List.mem_reverse]; exact ⟨hX i, hall i⟩
  have hs' : Sat n0 S0 M0 w0 (execL st (dOf R) V (NL S R).reverse) a w := by
   refine hs.eqv (by rw [execL_n, execL_n]) ?_ ?_
   ·intro t
    have x := execL_lk (st0 := st) (V := V) hd.inj (L := X) (t := t)
    have y := execL_lk (st0 := st) (V := V) hd.inj (L := (NL S R).reverse) (t := t)
    by_cases he : ∃ j, j ∈ X ∧ dOf R j = some t
    ·obtain ⟨j, h1, h2⟩ := he
     rw [x.1 j h1 h2, y.1 j (hp.mem_iff.1 h1) h2]
    ·rw [x.2 fun k hk e => he ⟨k, hk, e⟩, y.2 fun k hk e => he ⟨k, hp.mem_iff.2 hk, e⟩]
   ·rw [execL_us, execL_us]
    exact ((hp.flatMap_right _).append_right _).symm
  have hlen2 : X.length + (e :: es).length = ops.size := by
   have h1 : X.length = (NL S R).length := by rw [hp.length_eq, List.length_reverse]
   have h2 : (NL S R).length + (EL S R).length = R.length := by
    unfold NL EL
    have : ∀ l : List Nat, (l.filter fun i => S.contains i).length + (l.filter fun i => !S.contains i).length = l.length := by
     intro l
     induction l with
     | nil => rfl
     | cons x l ih =>
      simp only [List.filter_cons, lK]
      by_cases hx : S.contains x = true
      ·simp only [hx, if_true, bT, bF, if_false, lK]; omega
      ·have hx' : S.contains x = false := by simpa using hx
       simp only [hx', if_true, bN, bF, if_false, lK]; omega
    simpa using this (List.range R.length)
   rw [h1, ← hE, h2, hd.len]
  have hfuel : fuel = (e :: es).length := by omega
  rw [hfuel]
  refine ephase hd.len hd.res hd.acyc (e :: es) listed _ a w h.size ?_ hch ?_ hs' execL_n (hend a w hs')
  ·intro j hj
   rw [h.li j hj]
   have hjR : j < R.length := by rw [hd.len]; exact hj
   constructor
   ·intro hx hm
    rw [← hE] at hm
    have h1 := (mem_EL.1 hm).2
    have h2 := (mem_NL.1 (hX j hx)).2
    rw [h1] at h2; cases h2
   ·intro hm
    rw [← hE] at hm
    refine hall j (mem_NL.2 ⟨hjR, ?_⟩)
    cases hq : S.contains j with
    | true => rfl
    | false => exact absurd (mem_EL.2 ⟨hjR, hq⟩) hm
  ·intro x hx
   rw [← hE] at hx
   rw [← hd.len]; exact (mem_EL.1 hx).1
 intro fuel
 induction fuel with
 | zero =>
  intro X listed a w h hX hl hs
  have := full_of_len h.nd h.lt (by omega) e hel
  exact absurd (hX e this) heN
 | succ fuel ih =>
  intro X listed a w h hX hl hs
  by_cases hall : ∀ i ∈ NL S R, i ∈ X
  ·exact fin (fuel + 1) X listed a w h hX hl hs hall
  have ready_of : ∀ i, i < ops.size → i ∉ X → (∀ j ∈ waits ops i, j ∈ X) → i ∈ Region.ready .any ops listed := by
   intro i hi hm hw
   rw [mem_ready]
   refine ⟨?_, ops[i], by simp [hi], fun x hx hb => ?_⟩
   ·cases hc : listed.getD i true with
    | false => rfl
    | true => exact absurd ((h.li i hi).1 hc) hm
   ·have hw' : x.on ∈ waits ops i := by
     simp only [waits, Array.getElem?_eq_getElem hi, direct]
     exact List.mem_map.2 ⟨x, List.mem_filter.2 ⟨by simpa using hx, hb⟩, rfl⟩
    have hin := hw _ hw'
    have := (h.li x.on (h.lt _ hin)).2 hin
    rw [Array.getD_eq_getD_getElem?] at this ⊢
    have hs : x.on < listed.size := by rw [h.size]; exact h.lt _ hin
    rw [Array.getElem?_eq_getElem hs] at this ⊢
    exact this
  by_cases hF : ∃ f ∈ NL S R, f ∉ X ∧ flOk ops R f = true ∧ ∀ j ∈ waits ops f, j ∈ X
  ·obtain ⟨f, hfN, hfX, hfl, hfw⟩ := hF
   have hfs : f < ops.size := by rw [← hd.len]; exact (mem_NL.1 hfN).1
   have hrd := ready_of f hfs hfX hfw
   obtain ⟨h1, h2, o, ho, h3⟩ := h.next hrd
   obtain ⟨r, hr, hres⟩ := hd.res f o ho
   unfold flOk at hfl
   rw [ho, hr] at hfl
   simp only [bA, Option.isNone_iff_eq_none, List.all_eq_true, List.mem_range] at hfl
   obtain ⟨⟨hg0, hfl⟩, hap⟩ := hfl
   obtain ⟨op, hop, hrop, hQ, hdst, hdl, ⟨g, hat⟩, hget, hqq⟩ := at_soundE hd h hX hfN hr hres hfw hfX hs
   have hstep := hd.step f r hfN hr
   unfold StepDet at hstep
   rw [hg0] at hstep
   have hq' := hqq hstep
   rw [hrop] at hq' hfl
   obtain ⟨v, hv⟩ := float_yields hop hfl hat hq'
   have hgo : o.guard = none := by
    have hres0 := hres
    unfold resRO at hres0
    simp only [oD, oB, guard_some] at hres0
    obtain ⟨_, _, _, _, _, _, hres0⟩ := hres0
    split at hres0
    ·assumption
    ·simp only [oB, oP, oS] at hres0
     obtain ⟨_, _, _, _, hres0⟩ := hres0
     rw [← hres0] at hg0
     cases hg0
   have hwt : Region.wanted o (yielded ops a.tmps) = true := by simp [Region.wanted, hgo]
   have hnext : Sat n0 S0 M0 w0 (execL st (dOf R) V (f :: X)) (a.put o.dst v) w := by
    have := one_soundE (Q := fun _ _ _ => False) hd h hX hfN ho hr hres hfw hfX hs
    unfold wpOp at this
    rw [ho] at this
    simp only [hwt, if_true] at this
    rcases this with h4 | ⟨_, a', w', h4⟩
    ·unfold Oper.wp at h4
     rw [hv w] at h4
     exact h4
    ·exact h4.elim
   refine wpAny_first ho (Region.noSelect_spec hns) (fun c a w hh => absurd hh.1 (by simp)) fuel listed a w ?_ hrd (.inl ⟨hwt, hv⟩) (ih (f :: X) _ _ w h1 (fun i hi => (List.mem_cons.1 hi).elim (fun e => e ▸ hfN) (hX i)) (by simp only [lK]; omega) hnext)
   intro j oj hj hne hun hno
   have hjs := (Array.getElem?_eq_some_iff.1 hj).1
   have := hap j hjs
   rw [hj] at this
   simp only [Bool.or_eq_true, beq_iff_eq, hne, false_or, List.contains_eq_mem, decide_eq_true_eq] at this
   rcases this with h4 | h4 | h4
   ·exact absurd ((h.li j hjs).2 (hfw j h4)) (by rw [hun]; simp)
   ·simp only [waits, hj, direct] at h4
    obtain ⟨x, hx, hxe⟩ := List.mem_map.1 h4
    obtain ⟨hx1, hx2⟩ := List.mem_filter.1 hx
    exact absurd hxe (hno x (by simpa using hx1) hx2)
   ·exact h4
  ·have eready : (∀ j ∈ waits ops e, j ∈ X) → False := by
    intro hw

    have hnf : ∀ m i, i ∈ NL S R → R.length - i ≤ m → flOk ops R i = false → i ∈ X := by
     intro m
     induction m with
     | zero => intro i hi hm _; have := (mem_NL.1 hi).1; omega
     | succ m ihm =>
      intro i hi hm hfl
      rcases hcov i hi with h1 | h1 | ⟨k, hk, h1, h2, h3⟩
      ·rw [hfl] at h1; cases h1
      ·exact hw i h1
      ·rcases h2 with h2 | h2 | ⟨j, hj, h4, h5, h6⟩
       ·exact h.closed k (ihm k hk (by omega) h2) i h3
       ·exact h.closed k (hw k h2) i h3
       ·exact h.closed k (h.closed j (ihm j hj (by omega) h5) k h6) i h3
    refine hall ?_
    intro i
    induction i using Nat.strongRecOn with
    | ind i ihi =>
     intro hi
     cases hfl : flOk ops R i with
     | false => exact hnf _ i hi (Nat.le_refl _) hfl
     | true =>
      refine Classical.byContradiction fun hne => hF ⟨i, hi, hne, hfl, fun j hj => ihi j (hd.acyc i j hj) (hd.nw i hi j hj)⟩
   refine ⟨fun h0 => ?_, fun i hi => ?_⟩
   ·exfalso
    refine hall ?_
    intro i
    induction i using Nat.strongRecOn with
    | ind i ihi =>
     intro hi
     refine Classical.byContradiction fun hne => ?_
     have := ready_of i (by rw [← hd.len]; exact (mem_NL.1 hi).1) hne fun j hj => ihi j (hd.acyc i j hj) (hd.nw i hi j hj)
     rw [h0] at this
     cases this
   ·obtain ⟨h1, h2, o, ho, h3⟩ := h.next hi
    have his := (Array.getElem?_eq_some_iff.1 ho).1
    have hiN : i ∈ NL S R := by
     have hiR : i < R.length := by rw [hd.len]; exact his
     refine mem_NL.2 ⟨hiR, ?_⟩
     cases hq : S.contains i with
     | true => rfl
     | false =>
      exfalso
      have hm : i ∈ e :: es := by rw [← hE]; exact mem_EL.2 ⟨hiR, hq⟩
      rcases List.mem_cons.1 hm with rfl | hm
      ·exact eready h3
      ·obtain ⟨q, hq1, hq2⟩ := List.mem_iff_getElem.1 hm
       have hw := (chain_spec hch).2 q (by simp; omega)
       have e1 : (e :: es)[q + 1]'(by simp; omega) = i := by simpa using hq2
       rw [e1] at hw
       have hpre : (e :: es)[q]'(by simp; omega) ∈ EL S R := by rw [hE]; exact List.getElem_mem _
       have h4 := (mem_NL.1 (hX _ (h3 _ hw))).2
       rw [(mem_EL.1 hpre).2] at h4
       cases h4
    obtain ⟨r, hr, hres⟩ := hd.res i o ho
    refine wpOp_mono ?_ (one_soundE hd h hX hiN ho hr hres h3 h2 hs)
    intro a' w' hs'
    exact ih (i :: X) _ a' w' h1 (fun j hj => (List.mem_cons.1 hj).elim (fun e => e ▸ hiN) (hX j)) (by simp only [lK]; omega) hs'

theorem draw_soundE {ops : Array Oper} {R : List RO} {st : St} {K : Exit → St → Prop} {id : Nat} {a : Act} {w : World} (hm : P.follows .mixedOrders = true) (hd : drawOkE ops R = true)
  (hR : ops.toList.mapM (resRO P wv st.n ops) = some R) (hs : Sat n0 S0 M0 w0 st a w) (hq : vcOps P (ordE ops R) st K) : (Code.region id ops true).wp P (Post n0 S0 M0 w0 st.n K) a w := by
 refine wp_mono (Q := fun e a w => e = .normal ∧ Post n0 S0 M0 w0 st.n K e a w) (wp_region_any hm ?_) (fun e a w h => h.2)
 unfold drawOkE at hd
 unfold ordE at hq
 generalize nset ops R = S at hd hq
 unfold drawOkS at hd
 simp only [bA, beq_iff_eq] at hd
 obtain ⟨⟨⟨d1, d2⟩, d3⟩, hd⟩ := hd
 rw [vcOps_append] at hq
 cases hE : EL S R with
 | nil => rw [hE] at hd; cases hd
 | cons e es =>
  rw [hE] at hd hq
  simp only [bA, List.all_eq_true, List.mem_range, decide_eq_true_eq] at hd
  obtain ⟨hch, hall⟩ := hd
  have hNQ : ∀ r ∈ (NL S R).map (fun i => R.getD i default), r.op.isQ = true := by
   intro r hr
   obtain ⟨i, hi, rfl⟩ := List.mem_map.1 hr
   obtain ⟨h1, h2⟩ := mem_NL.1 hi
   have h3 := (hall i h1).2
   rw [h2] at h3
   simp only [bT, Bool.false_or, bA] at h3
   have h4 := h3.1.1.1
   simpa [isQi, List.getD_eq_getElem?_getD, h1] using h4
  obtain ⟨rl, s', hx, hK, hl⟩ := lex_of_vc hNQ hq
  obtain ⟨g, hu, hv⟩ := hs.gh
  have hnd := sorted_nodup (NL_sorted S R)
  have hV : (NL S R).map (fun i => rl.getD ((NL S R).idxOf i) (.any, [])) = rl := by
   apply List.ext_getElem
   ·simp at hl; simp [hl]
   ·intro p h1 h2
    have hp : p < (NL S R).length := by simpa using h1
    simp [List.getD_eq_getElem?_getD, List.Nodup.idxOf_getElem hnd p hp, h2]
  generalize hVd : (fun i => rl.getD ((NL S R).idxOf i) ((.any, []) : Rs)) = V at hV
  have hD : ∀ i ∈ NL S R, dOf R i = (R.getD i default).op.dst := by
   intro i hi
   have hlt := (mem_NL.1 hi).1
   simp [dOf, List.getD_eq_getElem?_getD, hlt]
  obtain ⟨e1, hst⟩ := lexI (D := dOf R) (V := V) (st0 := st) (L := []) hD hx rfl hV
  simp only [List.append_nil] at e1 hst
  have lt_of : ∀ {i : Nat} {r : RO}, R[i]? = some r → i < R.length := fun h => (List.getElem?_eq_some_iff.1 h).1
  have hwall : ∀ i, ∀ j ∈ waits ops i, j < i := by
   intro i j hj
   by_cases hi : i < R.length
   ·exact (hall i hi).1 j hj
   ·have : ops[i]? = none := by simp; omega
    simp [waits, this] at hj
  have hN : ∀ i ∈ NL S R, ((isQi R i = true ∧ (waits ops i).all (fun j => S.contains j) = true) ∧ (match R[i]? with | some r => r.slots.all (slotOk ops R i) | none => true) = true) ∧
    (flOk ops R i || (waits ops e).contains i || (List.range R.length).any fun k => decide (i < k) && S.contains k && ahead S ops R e k && (waits ops k).contains i) = true := by
   intro i hi
   obtain ⟨h1, h2⟩ := mem_NL.1 hi
   have := (hall i h1).2
   rw [h2] at this
   simpa only [bT, Bool.false_or, bA] using this
  have hDE : DrawnE P wv ops R st V S (NL S R) := by
   refine ⟨d2, ?_, dOf_inj (noDup_spec d1), hwall, fun i => mem_NL, fun i hi => (hN i hi).1.1.1, hnd, ?_, ?_, ?_, ?_⟩
   ·intro i o ho
    exact mapM_get hR i o (by simpa using ho)
   ·intro i hi j hj
    have h1 := (hN i hi).1.1.2
    rw [List.all_eq_true] at h1
    have h2 := hwall i j hj
    have h3 := (mem_NL.1 hi).1
    exact mem_NL.2 ⟨by omega, h1 j hj⟩
   ·intro i r t hi hr ht j hj
    have h2 := (hN i hi).1.2
    rw [hr] at h2
    simp only [List.all_eq_true] at h2
    have hs := h2 t ht
    unfold slotOk at hs
    simp only [List.all_eq_true, List.mem_range] at hs
    simp only [dOf, oB] at hj
    obtain ⟨x, hx, hd⟩ := hj
    have := hs j (lt_of hx)
    rw [hx] at this
    simpa [hd] using this
   ·intro i r hi hr
    obtain ⟨p, hp, rfl⟩ := List.mem_iff_getElem.1 hi
    have := hst p hp
    rw [take_bef (NL_sorted S R) p hp] at this
    rw [List.getD_eq_getElem?_getD, hr] at this
    exact this
   ·rw [← e1]
    exact lex_nodup hx hu.keys
  have hc : Come P ops R [] (Array.replicate ops.size false) := ⟨List.nodup_nil, by simp, by simp, by simp, fun j hj => by simp [Array.getD_eq_getD_getElem?, hj]⟩
  refine drawnE_any hDE hE hch d3 ?_ (fun a w h => by rw [← e1]; exact hK) ops.size [] _ a _ hc (by simp) (by simp) ⟨hs.ms, hs.dfr, hs.tm, hs.base, hs.os, hs.tape, hs.output, hs.size, hs.old, hs.gh⟩
  intro i hi
  have := (hN i hi).2
  simp only [ahead, Bool.or_eq_true, List.contains_eq_mem, decide_eq_true_eq, List.any_eq_true, List.mem_range, bA, Bool.not_eq_true'] at this
  rcases this with (h1 | h1) | ⟨k, hk, ⟨⟨h1, h2⟩, h3⟩, h4⟩
  ·exact .inl h1
  ·exact .inr (.inl h1)
  ·refine .inr (.inr ⟨k, mem_NL.2 ⟨hk, by simpa using h2⟩, h1, ?_, h4⟩)
   rcases h3 with (h3 | h3) | ⟨j, hj, ⟨⟨q1, q2⟩, q3⟩, q4⟩
   ·exact .inl h3
   ·exact .inr (.inl h3)
   ·exact .inr (.inr ⟨j, mem_NL.2 ⟨hj, by simpa using q2⟩, q1, q3, q4⟩)

end Go.Ax
namespace Go.Ax
set_option linter.unusedSimpArgs false

variable {P : Program} {wv : Wv} {n0 : Nat} {S0 M0 : Nat → Prop} {w0 : World}
variable [Gk P n0 M0 w0]
variable {st : St} {o : Oper} {a : Act} {w : World} {k : KQ} {g : Gh}

def Still (P : Program) (o : Oper) (a : Act) (w : World) (st : St) (g : Gh) (k : KQ) : Prop := ∃ av v, (execOp a.eval o).run P w = .ok (.value v) w ∧ VRep w.heap st.us g av v ∧ k av []
theorem At.still (h : At n0 S0 M0 w0 st o a w g) {av : AV} {v : Value} (hrun : (execOp a.eval o).run P w = .ok (.value v) w) (hr : VRep w.heap st.us g av v) (hk : k av []) : Still P o a w st g k := ⟨av, v, hrun, hr, hk⟩

theorem c_mv (h : At n0 S0 M0 w0 st o a w g) {t : TypeId} {x : Operand} {X : Ax.X} (ho : o.op = .move x ∨ o.op = .assign x) (hx : resX P t x = some X) (hq : k (st.ev X) []) :
  Still P o a w st g k := by
 refine h.still (v := a.eval x) ?_ (h.ev_ hx) hq
 rcases ho with ho | ho <;> simp [execOp, ho]

theorem c_nck (h : At n0 S0 M0 w0 st o a w g) {t : TypeId} {x : Operand} {X : Ax.X} (ho : o.op = .nilCheck x) (hx : resX P t x = some X) (hq : nckK (st.ev X) k) :
  Still P o a w st g k := by
 have e := h.ev_ hx
 unfold nckK at hq
 split at hq
 ·next t' d j hv =>
  rw [hv] at e
  have e' := e
  simp only [VRep, Rep, D.fits] at e'
  obtain ⟨F, ⟨b, off, c, el, fr, F', h1, _⟩, h2, _⟩ := e'
  rw [cells_one h2] at h1
  have h3 : a.eval x = .pointer (some ⟨b, off + j, none⟩) := by simpa using h1
  exact h.still (v := a.eval x) (by simp [execOp, ho, h3]) e hq
 ·next t' b0 o0 d j hv =>
  rw [hv] at e
  have e' := e
  simp only [VRep, Rep, D.fits] at e'
  obtain ⟨F, ⟨_, b, off, c, el, fr, F', h1, _⟩, h2, _⟩ := e'
  rw [cells_one h2] at h1
  have h3 : a.eval x = .pointer (some ⟨b, off + j, none⟩) := by simpa using h1
  exact h.still (v := a.eval x) (by simp [execOp, ho, h3]) e hq
 ·next t' p0 hv =>
  rw [hv] at e
  have h3 := sc_val e
  exact h.still (v := a.eval x) (by simp [execOp, ho, h3]) e hq
 ·next id el j hv =>
  rw [hv] at e
  have e' := e
  simp only [VRep] at e'
  obtain ⟨ow, nn, sz, es, b, _, _, _, _, h3⟩ := e'
  exact h.still (v := a.eval x) (by simp [execOp, ho, h3]) e hq
 ·next id el j isz el' j' hv =>
  rw [hv] at e
  have e' := e
  simp only [VRep] at e'
  obtain ⟨ow, nn, usz, es, b, c, ty, b', off', len', cap', _, _, _, _, _, _, h3⟩ := e'
  exact h.still (v := a.eval x) (by simp [execOp, ho, h3]) e hq
 ·next id j hv =>
  rw [hv] at e
  have e' := e
  simp only [VRep] at e'
  obtain ⟨_, _, b, _, _, h3⟩ := e'
  exact h.still (v := a.eval x) (by simp [execOp, ho, h3]) e hq
 ·exact hq.elim

theorem c_ext (h : At n0 S0 M0 w0 st o a w g) {t : TypeId} {x : Operand} {X : Ax.X} {i : Nat} (ho : o.op = .extract x i) (hx : resX P t x = some X)
  (hq : extK (st.ev X) i k) : Still P o a w st g k := by
 have ex := h.ev_ hx
 unfold extK at hq
 split at hq
 ·next vs e1 =>
  rw [e1] at ex
  simp only [VRep] at ex
  obtain ⟨xs, hv, hl⟩ := ex
  obtain ⟨hi, hk⟩ := hq
  have : ∀ (vs : List AV) (xs : List Value) (i : Nat), VRepL w.heap st.us g vs xs → i < vs.length → ∃ v, xs[i]? = some v ∧ VRep w.heap st.us g (vs.getD i .any) v := by
   intro vs
   induction vs with
   | nil => intro xs i _ hi; simp at hi
   | cons y vs ih =>
    intro xs i hl hi
    simp only [VRepL] at hl
    obtain ⟨v, r, rfl, h1, h2⟩ := hl
    cases i with
    | zero => exact ⟨v, rfl, h1⟩
    | succ i => obtain ⟨v', h3, h4⟩ := ih r i h2 (by simpa using hi); exact ⟨v', by simpa using h3, by simpa using h4⟩
  obtain ⟨v, h1, h2⟩ := this vs xs.toList i hl hi
  refine h.still (v := v) ?_ h2 hk
  have h1' : xs[i]? = some v := by simpa using h1
  simp [execOp, ho, hv, Instr.extract, h1']
 ·exact hq.elim

theorem c_ld (h : At n0 S0 M0 w0 st o a w g) {t u : TypeId} {agg : Bool} {sz : Nat} {x : Operand} {X : Ax.X} (ho : o.op = .load t x) (hx : resX P u x = some X)
  (hz : szOf P t = some sz) (hg : aggOf P t = some agg) (h1 : agg = false → sz = 1)
  (hq : ldK (st.ev X) st.unit agg sz k) : Still P o a w st g k := by
 obtain ⟨av, v, h2, h3, h4⟩ := ld_core (P := P) h.us hz hg h1 (h.ev_ hx) hq
 exact h.still (v := v) (by simp [execOp, ho, h2]) h3 h4

theorem c_fa (h : At n0 S0 M0 w0 st o a w g) {t u : TypeId} {i off : Nat} {x : Operand} {X : Ax.X} {fs : Array Field} {f : Field} (ho : o.op = .fieldAddr t x i) (hx : resX P u x = some X)
  (ht : P.underlying t = some (.struct fs)) (hf : fs[i]? = some f) (hoff : f.offset = off) {z : Nat} (hz : szOf P f.type = some z) (hz0 : z ≠ 0)
  (hq : faK (st.ev X) st.unit off k) : Still P o a w st g k := by
 have ex := h.ev_ hx
 have hrun : ∀ (b p : Nat), a.eval x = .pointer (some ⟨b, p, none⟩) → (execOp a.eval o).run P w = .ok (.value (.pointer (some ⟨b, p + off, none⟩))) w := by
  intro b p hv
  subst hoff
  simp [execOp, ho, hv, Instr.fieldAt, run_underlying ht, hf, Instr.sureAddr, fieldPlace, run_sz hz, hz0, add_mid]
 unfold faK at hq
 split at hq
 ·next t1 d j e1 =>
  rw [e1] at ex
  obtain ⟨b, p, hv, hr⟩ := pt_val ex
  exact h.still (hrun _ _ hv) (by rw [Nat.add_assoc]; exact hr _ hq.1) hq.2
 ·next t1 b0 o0 d j e1 =>
  rw [e1] at ex
  obtain ⟨ex', hl⟩ := lc_un ex rfl
  obtain ⟨b, p, hv, hr⟩ := pt_val ex'
  rw [hv] at hl
  simp at hl
  obtain ⟨rfl, rfl⟩ := hl
  exact h.still (hrun _ _ hv) (lc_mk (by rw [Nat.add_assoc]; exact hr _ hq.1) rfl) hq.2
 ·next id el j e1 =>
  rw [e1] at ex
  simp only [VRep] at ex
  obtain ⟨ow, nn, usz, es, b, r1, r2, r3, r4, hv⟩ := ex
  unfold faW at hq
  split at hq
  ·next ow' nn' usz' es' hun =>
   have := h.us.uniq r1 (mem_of_lu hun)
   injection this with e1 e2 e3 e4
   subst e1; subst e2; subst e3; subst e4
   refine h.still (hrun _ _ hv) ?_ hq.2
   simp only [VRep]
   exact ⟨ow, nn, usz, es, b, r1, r2, hq.1, r4, by rw [Nat.add_assoc]⟩
  ·exact hq.elim
 ·next id el j isz el' j' e1 =>
  rw [e1] at ex
  simp only [VRep] at ex
  obtain ⟨ow, nn, usz, es, b, c, ty, b', off', len', cap', r1, r2, r3, r4, r5, r6, hv⟩ := ex
  refine h.still (hrun _ _ hv) ?_ hq.2
  simp only [VRep]
  exact ⟨ow, nn, usz, es, b, c, ty, b', off', len', cap', r1, r2, r3, r4, r5, r6, by rw [Nat.add_assoc]⟩
 ·next id j e1 =>
  rw [e1] at ex
  simp only [VRep] at ex
  obtain ⟨sz, items, b, r1, r2, hv⟩ := ex
  refine h.still (hrun _ _ hv) ?_ hq
  simp only [VRep]
  exact ⟨sz, items, b, r1, r2, rfl⟩
 ·exact hq.elim

theorem c_ia (h : At n0 S0 M0 w0 st o a w g) {t e u1 u2 : TypeId} {sz : Nat} {x i : Operand} {X I : Ax.X} (ho : o.op = .indexAddr t x i) (hx : resX P u1 x = some X) (hi : resX P u2 i = some I)
  (ht : P.underlying t = some (.slice e)) (hz : szOf P e = some sz) (hq : iaK (st.ev X) (st.ev I) st.unit sz k) : Still P o a w st g k := by
 have ex := h.ev_ hx
 have ei := h.ev_ hi
 unfold iaK at hq
 split at hq
 ·next t1 kd n e1 =>
  rw [e1] at ei
  have vi := sc_val ei
  split at hq
  ·next id off len e2 =>
   rw [e2] at ex
   simp only [VRep] at ex
   obtain ⟨ow, nn, usz, es, r1, r2, r3⟩ := ex
   obtain ⟨⟨q1, q2⟩, hq⟩ := hq
   unfold iaW at hq
   split at hq
   ·next ow' nn' usz' es' hun =>
    have := h.us.uniq r1 (mem_of_lu hun)
    injection this with e1 e2 e3 e4
    subst e1; subst e2; subst e3; subst e4
    obtain ⟨⟨rfl, hs0⟩, hk⟩ := hq
    rcases r3 with ⟨b, r3, r4⟩ | ⟨_, _, rfl, _⟩
    ·refine h.still (v := .pointer (some ⟨b, off * sz + n.toNat * sz, none⟩)) ?_ ?_ hk
     ·have := run_index (P := P) ht hz (b := b) (off := off * sz) (len := len) (cap := g.cap id - off) (kd := kd) q1 q2 w
      simp [execOp, ho, vi, r4, this]
     ·simp only [VRep]
      refine ⟨ow, nn, sz, es, b, r1, by omega, hs0, r3, by rw [Nat.add_mul]; rfl⟩
    ·omega
   ·exact hq.elim
  ·next id off len e2 =>
   rw [e2] at ex
   simp only [VRep] at ex
   obtain ⟨ow, nn, usz, es, r1, r2, r0⟩ := ex
   obtain ⟨⟨q1, q2⟩, hq⟩ := hq
   rcases r0 with ⟨b, o, r3, r4, r5⟩ | ⟨_, rfl, _⟩
   case inr => omega
   unfold iaW at hq
   split at hq
   ·next ow' nn' usz' es' hun =>
    have := h.us.uniq r1 (mem_of_lu hun)
    injection this with e1 e2 e3 e4
    subst e1; subst e2; subst e3; subst e4
    obtain ⟨⟨rfl, hs0⟩, hk⟩ := hq
    have hcap : es.length ≤ g.cap id := by
     have ho := h.us.each _ r1
     simp only [UOk] at ho
     rcases ho.2.2 with ⟨h0, _⟩ | ⟨_, _, _, _, _, _, _, _, _, _, hc, _⟩
     ·rw [r3] at h0; cases h0
     ·exact hc
    obtain rfl := r4 (by omega)
    refine h.still (v := .pointer (some ⟨b, off * sz + n.toNat * sz, none⟩)) ?_ ?_ hk
    ·have := run_index (P := P) ht hz (b := b) (off := off * sz) (len := len) (cap := g.cap id - off) (kd := kd) q1 q2 w
     simp [execOp, ho, vi, r5, this]
    ·simp only [VRep]
     refine ⟨ow, nn, sz, es, b, r1, by omega, hs0, r3, by rw [Nat.add_mul]; rfl⟩
   ·exact hq.elim
  ·next id el j e2 =>
   rw [e2] at ex
   unfold iaC at hq
   split at hq
   ·next nn usz es hun =>
    unfold iaI at hq
    split at hq
    ·next nn' sz' ds hd =>
     obtain ⟨⟨rfl, hs0, q1, q2⟩, hk⟩ := hq
     have hr := cw_im h.us ex hun
     rw [hd] at hr
     simp only [VRep, Rep, D.fits] at hr
     obtain ⟨F, hrep, hf, hok⟩ := hr
     rw [cells_one hf] at hrep
     rcases hrep with ⟨_, _, rfl, _⟩ | ⟨b', off', cap', c', el', fr, F', p1, p2, p3, p4, p5, p6, p7, p8, p9⟩
     ·simp at q2; omega
     ·have hv : a.eval x = .slice (some ⟨b', off', none⟩) ds.length cap' := by simpa using p1
      simp only [VRep] at ex
      obtain ⟨nn0, usz0, es0, b, c, ty, r1, r2, r3, r4, r5, r6, r7, r8, r9⟩ := ex
      have := h.us.uniq r1 (mem_of_lu hun)
      injection this with z1 z2 z3 z4
      subst z2 z3 z4
      refine h.still (v := .pointer (some ⟨b', off' + n.toNat * sz, none⟩)) ?_ ?_ hk
      ·have := run_index (P := P) ht hz (b := b') (off := off') (len := ds.length) (cap := cap') (kd := kd) q1 q2 w
       simp [execOp, ho, vi, hv, this]
      ·simp only [VRep]
       refine ⟨true, nn0, usz0, es0, b, c, ty, b', off', ds.length, cap', r1, r2, r3, r4, r5, ?_, by simp⟩
       rw [cells_one hf] at r8
       have h1 : ((c.toList.drop (el * usz0 + j)).take 1)[0]? = some (a.eval x) := by rw [← r8]; simp
       rw [List.getElem?_take_of_lt (by omega), List.getElem?_drop, Nat.add_zero, Array.getElem?_toList] at h1
       rw [h1, hv]
    ·exact hq.elim
   ·exact hq.elim
  ·unfold iaD at hq
   split at hq
   ·next t2 nn sz' ds hd =>
    have hr := den_rep h.us ex hd
    obtain ⟨⟨rfl, hs0, q1, q2⟩, hk⟩ := hq
    have hr' := hr
    simp only [VRep, Rep, D.fits] at hr
    obtain ⟨F, hrep, hf, hok⟩ := hr
    rw [cells_one hf] at hrep
    rcases hrep with ⟨_, _, rfl, _⟩ | ⟨b, off, cap, c, el, fr, F', p1, p2, p3, p4, p5, p6, p7, p8, p9⟩
    ·simp at q2; omega
    ·have hv : a.eval x = .slice (some ⟨b, off, none⟩) ds.length cap := by simpa using p1
     have hlt : n.toNat < ds.length := by omega
     obtain ⟨F1, F2, F3, c1, c2, c3, g1, g2, g3, g4, g5⟩ := p9.pick hlt
     have hsz := p8 _ (List.getElem_mem hlt)
     have l1 : c1.length = n.toNat * sz := by
      rw [g3.length, D.sizeL_const (sz := sz) fun d hd => p8 d (List.mem_of_mem_take hd), List.length_take, Nat.min_eq_left (Nat.le_of_lt hlt)]
     have hmul : n.toNat * sz + sz ≤ ds.length * sz := by
      have := Nat.mul_le_mul_right sz (show n.toNat + 1 ≤ ds.length by omega)
      rw [Nat.add_mul] at this; omega
     have hmul2 : ds.length * sz ≤ cap * sz := Nat.mul_le_mul_right sz p4
     refine h.still (v := .pointer (some ⟨b, off + n.toNat * sz, none⟩)) ?_ ?_ hk
     ·have := run_index (P := P) ht hz (b := b) (off := off) (len := ds.length) (cap := cap) (kd := kd) q1 q2 w
      simp [execOp, ho, vi, hv, this]
     ·rw [D.at_eq hlt]
      simp only [VRep]
      refine ⟨b :: F2, ?_, by simp [D.fits, Value.oneCell'], ?_⟩
      ·unfold Rep
       refine ⟨b, off + n.toNat * sz, c, el, fr, F2, by simp [Value.cells], rfl, by omega, p6, by omega, ?_⟩
       have : (c.toList.drop (off + n.toNat * sz)).take ((ds[n.toNat]).size) = c2 := by
        have e1 := congrArg (fun l => (l.drop c1.length).take c2.length) g2
        simp only [List.drop_left', List.take_left', List.drop_take, List.drop_drop, List.take_take] at e1
        rw [l1] at e1
        have l2 := g4.length
        rw [hsz] at l2
        rw [l2, Nat.min_eq_left (by omega)] at e1
        rw [hsz]
        exact e1
       rw [this]
       exact g4
      ·intro y hy
       apply hok
       rw [p2, g1]
       rcases List.mem_cons.1 hy with rfl | hy
       ·simp
       ·simp [hy]
   ·next t2 b0 o0 nn sz' ds hd =>
    obtain ⟨hr, hl⟩ := lc_un (den_rep h.us ex hd) rfl
    obtain ⟨⟨rfl, hs0, q1, q2⟩, hk⟩ := hq
    have hr' := hr
    simp only [VRep, Rep, D.fits] at hr
    obtain ⟨F, hrep, hf, hok⟩ := hr
    rw [cells_one hf] at hrep
    rcases hrep with ⟨_, _, rfl, _⟩ | ⟨b, off, cap, c, el, fr, F', p1, p2, p3, p4, p5, p6, p7, p8, p9⟩
    ·simp at q2; omega
    ·have hv : a.eval x = .slice (some ⟨b, off, none⟩) ds.length cap := by simpa using p1
     rw [hv] at hl
     simp at hl
     obtain ⟨rfl, rfl⟩ := hl
     have hlt : n.toNat < ds.length := by omega
     obtain ⟨F1, F2, F3, c1, c2, c3, g1, g2, g3, g4, g5⟩ := p9.pick hlt
     have hsz := p8 _ (List.getElem_mem hlt)
     have l1 : c1.length = n.toNat * sz := by
      rw [g3.length, D.sizeL_const (sz := sz) fun d hd => p8 d (List.mem_of_mem_take hd), List.length_take, Nat.min_eq_left (Nat.le_of_lt hlt)]
     have hmul : n.toNat * sz + sz ≤ ds.length * sz := by
      have := Nat.mul_le_mul_right sz (show n.toNat + 1 ≤ ds.length by omega)
      rw [Nat.add_mul] at this; omega
     have hmul2 : ds.length * sz ≤ cap * sz := Nat.mul_le_mul_right sz p4
     refine h.still (v := .pointer (some ⟨b, off + n.toNat * sz, none⟩)) ?_ ?_ hk
     ·have := run_index (P := P) ht hz (b := b) (off := off) (len := ds.length) (cap := cap) (kd := kd) q1 q2 w
      simp [execOp, ho, vi, hv, this]
     ·refine lc_mk ?_ rfl
      rw [D.at_eq hlt]
      simp only [VRep]
      refine ⟨b :: F2, ?_, by simp [D.fits, Value.oneCell'], ?_⟩
      ·unfold Rep
       refine ⟨b, off + n.toNat * sz, c, el, fr, F2, by simp [Value.cells], rfl, by omega, p6, by omega, ?_⟩
       have : (c.toList.drop (off + n.toNat * sz)).take ((ds[n.toNat]).size) = c2 := by
        have e1 := congrArg (fun l => (l.drop c1.length).take c2.length) g2
        simp only [List.drop_left', List.take_left', List.drop_take, List.drop_drop, List.take_take] at e1
        rw [l1] at e1
        have l2 := g4.length
        rw [hsz] at l2
        rw [l2, Nat.min_eq_left (by omega)] at e1
        rw [hsz]
        exact e1
       rw [this]
       exact g4
      ·intro y hy
       apply hok
       rw [p2, g1]
       rcases List.mem_cons.1 hy with rfl | hy
       ·simp
       ·simp [hy]
   ·exact hq.elim
 ·exact hq.elim

theorem c_len (h : At n0 S0 M0 w0 st o a w g) {t u1 e : TypeId} {c : Call} {x : Operand} {X : Ax.X} (ho : o.op = .call c) (hc : c.callee = .builtin .len) (ha : c.args = #[x]) (hta : c.argTypes = #[t]) (hx : resX P u1 x = some X)
  (ht : P.underlying t = some (.slice e)) (hq : lenK (st.ev X) st.unit k) : Still P o a w st g k := by
 have ex := h.ev_ hx
 have hrun : ∀ p len cap, a.eval x = .slice p len cap → (execOp a.eval o).run P w = .ok (.value (.int .i64 len)) w := by
  intro p len cap hv
  simp [execOp, ho, resolve, hc, ha, hta, hv, invoke, builtin, Builtin.len_, run_underlying ht, goInt]
 unfold lenK at hq
 split at hq
 ·next id off len e2 =>
  rw [e2] at ex
  simp only [VRep] at ex
  obtain ⟨ow, nn, usz, es, r1, r2, r3⟩ := ex
  rcases r3 with ⟨b, r3, r4⟩ | ⟨_, _, rfl, r4⟩
  ·exact h.still (hrun _ _ _ r4) (sc_rep rfl) hq
  ·exact h.still (hrun _ _ _ r4) (sc_rep rfl) hq
 ·next id off len e2 =>
  rw [e2] at ex
  simp only [VRep] at ex
  obtain ⟨ow, nn, usz, es, r1, r2, ⟨b, o, r3, r4, r5⟩ | ⟨_, rfl, r5⟩⟩ := ex
  ·exact h.still (hrun _ _ _ r5) (sc_rep rfl) hq
  ·exact h.still (hrun _ _ _ r5) (sc_rep rfl) hq
 ·next nn sz e2 =>
  rw [e2] at ex
  simp only [VRep] at ex
  obtain ⟨p, r5, _⟩ := ex
  exact h.still (hrun _ _ _ r5) (sc_rep rfl) hq
 ·unfold lenD at hq
  split at hq
  ·next t2 nn sz' ds hd =>
   have hr := den_rep h.us ex hd
   obtain ⟨p, len, cap, hv, rfl, _, _⟩ := ls_val hr
   exact h.still (hrun _ _ _ hv) (sc_rep rfl) hq
  ·next t2 b0 o0 nn sz' ds hd =>
   obtain ⟨hr, _⟩ := lc_un (den_rep h.us ex hd) rfl
   obtain ⟨p, len, cap, hv, rfl, _, _⟩ := ls_val hr
   exact h.still (hrun _ _ _ hv) (sc_rep rfl) hq
  ·exact hq.elim

def ROp.isSt : ROp → Bool
 | .mv .. | .ld .. | .fa .. | .fl .. | .ia .. | .len .. | .nck .. | .ext .. => true
 | _ => false
theorem zerOp_st {d : Nat} {e : TypeId} {r : ROp} (h : zerOp P d e = some r) : r.isSt = false := by
 unfold zerOp at h
 split at h
 ·injection h with h; subst h; rfl
 ·simp only [oD, oB, oP, oS] at h
  obtain ⟨s, hs, z, hz, rfl⟩ := h
  rfl
theorem bsOp_st {wv : Wv} {d sz : Nat} {z : D} {l : Nat} {ps : List (Nat × X)} : (bsOp wv d sz z l ps).isSt = false := by
 unfold bsOp
 split <;> rfl
theorem still_sound {n : Nat} {r : ROp} (hres : resOp P wv n o = some r) (hQ : r.isSt = true) (h : At n0 S0 M0 w0 st o a w g) (hq : qOp P r st.ev st.unit k) : Still P o a w st g k := by
 unfold resOp at hres
 split at hres
 ·next x ho =>
  simp only [oD, oB, oP, oS, guard_some] at hres
  obtain ⟨d, hd, _, _, X, hX, rfl⟩ := hres
  exact c_mv h (.inl ho) hX hq
 ·next x ho =>
  simp only [oD, oB, oP, oS, guard_some] at hres
  obtain ⟨d, hd, _, _, X, hX, rfl⟩ := hres
  exact c_mv h (.inr ho) hX hq
 ·next c x y ho =>
  simp only [oD, oB, oP, oS, guard_some] at hres
  obtain ⟨d, hd, _, _, C, hC, X, hX, Y, hY, rfl⟩ := hres
  cases hQ
 ·next e x ho =>
  simp only [oD, oB, oP, oS, guard_some] at hres
  obtain ⟨d, hd, _, _, s, hs, X, hX, rfl⟩ := hres
  cases hQ
 ·next e ho =>
  simp only [oD, oB, guard_some] at hres
  obtain ⟨d, hd, _, _, hres⟩ := hres
  rw [zerOp_st hres] at hQ
  cases hQ
 ·next t x ho =>
  simp only [oD, oB, oP, oS, guard_some] at hres
  obtain ⟨d, hd, _, _, s, hs, ag, hag, _, h1, X, hX, rfl⟩ := hres
  exact c_ld h ho hX hs hag (fun e => by subst e; simpa using h1) hq
 ·next t p x ho =>
  simp only [oD, oB, oP, oS, guard_some] at hres
  obtain ⟨_, _, s, _, A, _, X, _, rfl⟩ := hres
  cases hQ
 ·next x ho =>
  simp only [oD, oB, oP, oS, guard_some] at hres
  obtain ⟨d, hd, _, _, X, hX, rfl⟩ := hres
  exact c_nck h ho hX hq
 ·next op t x y u ho =>
  simp only [oD, oB, oP, guard_some] at hres
  obtain ⟨d, hd, _, _, hres⟩ := hres
  split at hres <;> (try simp only [oB, oS] at hres)
  ·obtain ⟨X, hX, Y, hY, rfl⟩ := hres
   cases hQ
  ·obtain ⟨X, hX, Y, hY, rfl⟩ := hres
   cases hQ
  ·next ht _ _ => obtain ⟨X, hX, Y, hY, rfl⟩ := hres; cases hQ
  ·obtain ⟨X, hX, Y, hY, rfl⟩ := hres; cases hQ
  ·obtain ⟨X, hX, Y, hY, rfl⟩ := hres; cases hQ
  ·obtain ⟨X, hX, Y, hY, rfl⟩ := hres; cases hQ
  ·next fs ht =>
   split at hres <;> (try simp only [oB, oS] at hres)
   ·next hok => obtain ⟨X, hX, Y, hY, rfl⟩ := hres; cases hQ
   ·subst hres; cases hQ
  ·next fs ht =>
   split at hres <;> (try simp only [oB, oS] at hres)
   ·next hok => obtain ⟨X, hX, Y, hY, rfl⟩ := hres; cases hQ
   ·subst hres; cases hQ
  ·subst hres; cases hQ
 ·next op t x ho =>
  simp only [oD, oB, oP, oS, guard_some] at hres
  obtain ⟨d, hd, _, _, X, hX, rfl⟩ := hres
  cases hQ
 ·next s t x ho =>
  simp only [oD, oB, oP, guard_some] at hres
  obtain ⟨d, hd, _, _, hres⟩ := hres
  split at hres <;> (try simp only [oB, oS] at hres)
  ·obtain ⟨X, hX, rfl⟩ := hres
   cases hQ
  ·split at hres <;> simp only [oB, oS] at hres
   ·obtain ⟨X, hX, rfl⟩ := hres
    cases hQ
   ·subst hres; cases hQ
  ·subst hres; cases hQ
 ·next t l c ho =>
  simp only [oD, oB, oP, oS, guard_some] at hres
  obtain ⟨d, hd, _, _, e, he, i, hi, z, hz, L, hL, C, hC, rfl⟩ := hres
  have ht : P.underlying t = some (.slice e) := by
   unfold elemOf at he
   split at he
   ·next e' h' => injection he with he; subst he; exact h'
   ·cases he
  cases hQ
 ·next t x lo hi ho =>
  simp only [oD, oB, oP, guard_some] at hres
  obtain ⟨d, hd, _, _, Lo, hLo, Hi, hHi, hres⟩ := hres
  have l1 : ∀ y, lo = some y → ∃ Y, Lo = some Y ∧ resX P 0 y = some Y := by
   rintro y rfl
   simp only [Option.map_eq_some_iff] at hLo
   obtain ⟨Y, h1, rfl⟩ := hLo
   exact ⟨Y, rfl, h1⟩
  have l2 : lo = none → Lo = none := by rintro rfl; simpa using hLo.symm
  have l3 : ∀ y, hi = some y → ∃ Y, Hi = some Y ∧ resX P 0 y = some Y := by
   rintro y rfl
   simp only [Option.map_eq_some_iff] at hHi
   obtain ⟨Y, h1, rfl⟩ := hHi
   exact ⟨Y, rfl, h1⟩
  have l4 : hi = none → Hi = none := by rintro rfl; simpa using hHi.symm
  split at hres <;> simp only [oB, oS] at hres
  ·obtain ⟨s, hs, X, hX, rfl⟩ := hres
   cases hQ
  ·obtain ⟨X, hX, rfl⟩ := hres
   cases hQ
  ·subst hres; cases hQ
 ·next t x lo hi mx ho =>
  simp only [oD, oB, oP, guard_some] at hres
  obtain ⟨d, hd, _, _, hres⟩ := hres
  split at hres
  ·next e ht =>
   split at hres
   ·next hc0 =>
    simp only [oB, oS] at hres
    obtain ⟨s, hs, X, hX, rfl⟩ := hres
    simp only [bA] at hc0
    cases hi with
    | none => simp at hc0
    | some hi => cases hQ
   ·simp only [oS] at hres; subst hres; cases hQ
  ·simp only [oS] at hres; subst hres; cases hQ
 ·next fn first captured ho =>
  simp only [oD, oB, oP, guard_some] at hres
  obtain ⟨d, hd, _, _, hres⟩ := hres
  split at hres
  ·next f hf =>
   simp only [oB, oS] at hres
   obtain ⟨Xs, hXs, rfl⟩ := hres
   have hf' : first = #[] := by apply Array.ext'; simpa using hf
   subst hf'
   cases hQ
  ·simp only [oS] at hres; subst hres; cases hQ
 ·next t x i ho =>
  simp only [oD, oB, oP, guard_some] at hres
  obtain ⟨d, hd, _, _, hres⟩ := hres
  split at hres
  ·next fs ht =>
   simp only [oB, oS, guard_some] at hres
   obtain ⟨f, hf, z, hz, _, hz0, X, hX, rfl⟩ := hres
   exact c_fa h ho hX ht hf rfl hz (by simpa using hz0) hq
  ·cases hres
 ·next t x i ho =>
  simp only [oD, oB, oP, guard_some] at hres
  obtain ⟨d, hd, _, _, hres⟩ := hres
  split at hres
  ·next fs ht =>
   simp only [oB, oS, guard_some] at hres
   obtain ⟨f, hf, s, hs, ag, hag, _, h1, X, hX, rfl⟩ := hres
   exact hq.elim
  ·cases hres
 ·next t x i ho =>
  simp only [oD, oB, oP, guard_some] at hres
  obtain ⟨d, hd, _, _, hres⟩ := hres
  split at hres
  ·next e ht =>
   simp only [oB, oS] at hres
   obtain ⟨s, hs, X, hX, I, hI, rfl⟩ := hres
   exact c_ia h ho hX hI ht hs hq
  ·simp only [oS] at hres; subst hres; cases hQ
 ·next t x i ho =>
  simp only [oD, oB, oP, guard_some] at hres
  obtain ⟨d, hd, _, _, hres⟩ := hres
  split at hres
  ·next ht =>
   simp only [oB, oS] at hres
   obtain ⟨X, hX, I, hI, rfl⟩ := hres
   cases hQ
  ·simp only [oS] at hres; subst hres; cases hQ
 ·next x i ho =>
  simp only [oD, oB, oP, oS, guard_some] at hres
  obtain ⟨d, hd, _, _, X, hX, rfl⟩ := hres
  exact c_ext h ho hX hq
 ·next t l ps ho =>
  simp only [oD, oB, oP, oS, guard_some] at hres
  obtain ⟨d, hd, _, _, e, he, s, hs, z, hz, L, hL, rfl⟩ := hres
  rw [bsOp_st] at hQ
  cases hQ
 ·next t ps ho =>
  simp only [oD, oB, oP, guard_some] at hres
  obtain ⟨d, hd, _, _, hres⟩ := hres
  split at hres
  ·next fs ht =>
   simp only [oB, oS] at hres
   obtain ⟨places, hpl, z, hz, L, hL, rfl⟩ := hres
   cases hQ
  ·simp only [oS] at hres; subst hres; cases hQ
 ·next c ho =>
  split at hres
  ·next f hc =>
   simp only [oD, oB, guard_some] at hres
   obtain ⟨_, _, _, hl, Xs, hXs, hres⟩ := hres
   split at hres
   ·split at hres
    ·simp only [oP, oS] at hres; subst hres; cases hQ
    ·cases hres
   split at hres
   ·split at hres
    ·simp only [oP, oS] at hres; subst hres; cases hQ
    ·cases hres
   split at hres
   ·split at hres
    ·simp only [oP, oS] at hres; subst hres; cases hQ
    ·cases hres
   split at hres
   ·split at hres
    ·simp only [oP, oS] at hres; subst hres; cases hQ
    ·cases hres
   split at hres
   ·simp only [oP, oS] at hres; subst hres; cases hQ
   ·simp only [oP, oS] at hres
    subst hres
    cases hQ
  ·next x _ hc =>
   simp only [oD, oB, oP, oS, guard_some] at hres
   obtain ⟨_, _, _, hl, X, hX, Xs, hXs, rfl⟩ := hres
   cases wv <;> cases hQ
  ·next hc =>
   simp only [oD, oB, guard_some] at hres
   obtain ⟨d, hd, _, _, hres⟩ := hres
   split at hres
   ·next x t ha hta =>
    have ha' : c.args = #[x] := by apply Array.ext'; simpa using ha
    have hta' : c.argTypes = #[t] := by apply Array.ext'; simpa using hta
    split at hres <;> simp only [oB, oP, oS] at hres
    ·obtain ⟨X, hX, rfl⟩ := hres
     cases hQ
    ·obtain ⟨X, hX, rfl⟩ := hres
     exact c_len h ho hc ha' hta' hX (by assumption) hq
    ·subst hres; cases hQ
   ·cases hres
  ·next hc =>
   simp only [oD, oB, guard_some] at hres
   obtain ⟨d, hd, _, _, hres⟩ := hres
   split at hres
   ·next x y t u ha hta =>
    have ha' : c.args = #[x, y] := by apply Array.ext'; simpa using ha
    simp only [oB, oP, oS] at hres
    obtain ⟨X, hX, Y, hY, rfl⟩ := hres
    cases hQ
   ·cases hres
  ·next hc =>
   simp only [oD, oB, guard_some] at hres
   obtain ⟨d, hd, _, _, hres⟩ := hres
   split at hres
   ·next x y t u ha hta =>
    have ha' : c.args = #[x, y] := by apply Array.ext'; simpa using ha
    simp only [oB, oP, oS] at hres
    obtain ⟨X, hX, Y, hY, rfl⟩ := hres
    cases hQ
   ·cases hres
  ·next hc =>
   simp only [oD, oB, guard_some] at hres
   obtain ⟨d, hd, _, _, hres⟩ := hres
   split at hres
   ·split at hres <;> simp only [oB, oP, oS] at hres
    ·obtain ⟨i, hi, _, _, z, hz, X, hX, Y, hY, rfl⟩ := hres
     cases wv <;> cases hQ
    ·subst hres; cases hQ
   ·cases hres
  ·next hc =>
   simp only [oD, oB, guard_some] at hres
   obtain ⟨_, _, hres⟩ := hres
   split at hres
   ·next x y t u ha hta =>
    have ha' : c.args = #[x, y] := by apply Array.ext'; simpa using ha
    have hta' : c.argTypes = #[t, u] := by apply Array.ext'; simpa using hta
    split at hres <;> simp only [oB, oP, oS, guard_some] at hres
    ·obtain ⟨s, hs, _, htu, X, hX, Y, hY, rfl⟩ := hres
     cases hQ
    ·subst hres; cases hQ
   ·cases hres
  ·simp only [oP, oS] at hres; subst hres; cases hQ
 ·simp only [oP, oS] at hres; subst hres; cases hQ

end Go.Ax
