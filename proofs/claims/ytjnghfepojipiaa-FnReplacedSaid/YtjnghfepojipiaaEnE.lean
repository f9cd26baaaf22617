/- THE ENGINE, PART 5: a generator of conditions over the register code, and its soundness. No condition. -/
import Derived.Test.YtjnghfepojipiaaEnD
set_option linter.unusedSimpArgs false
set_option linter.unusedVariables false
set_option linter.unnecessarySimpa false
namespace Go.Ax

variable {P : Program} {n0 : Nat} {S0 M0 : Nat → Prop} {w0 : World}
variable {st : St} {o : Oper} {a : Act} {w : World} {k : KQ} {Q' : Exit → Act → World → Prop} {g : Gh}

structure KeepM (k : Nat) (f : AV → Bool) (h h' : Heap) (us us' : List (Nat × U)) (g g' : Gh) : Prop extends Keep k f h h' us us' g g' where
 own : ∀ d, (k, U.own d) ∈ us → ∃ d', (k, U.own d') ∈ us'
 ar : ∀ ow nn sz es, (k, U.ar ow nn sz es) ∈ us → ∃ ow' nn' es', (k, U.ar ow' nn' sz es') ∈ us' ∧ es'.length = es.length
 bx : ∀ sz items, (k, U.bx sz items) ∉ us
 sb : ∀ T E s, (k, U.sb T E s) ∈ us → ∃ s', (k, U.sb T E s') ∈ us'
 same : g'.β k = g.β k ∧ g'.root k = g.root k ∧ g'.cap k = g.cap k

mutual
theorem VRep.keepM {k : Nat} {f : AV → Bool} {h h' : Heap} {us us' : List (Nat × U)} {g g' : Gh} (H : KeepM k f h h' us us' g g') : ∀ {av : AV} {v : Value}, av.soft k = false → VRep h us g av v → VRep h' us' g' av v
 | .im t d, v, hf, hr => VRep.keepR H.toKeep (by simpa [AV.refs, AV.soft] using hf) hr
 | .cw i el j sz agg, v, hf, hr => VRep.keepR H.toKeep (by simpa [AV.refs, AV.soft] using hf) hr
 | .tr i, v, _, hr => by
  by_cases e : i = k
  ·subst e
   simp only [VRep] at hr ⊢
   obtain ⟨⟨d, hd⟩, hv⟩ := hr
   exact ⟨H.own d hd, by rw [H.same.2.1]; exact hv⟩
  ·exact VRep.keepR H.toKeep (by simpa [AV.refs] using e) hr
 | .pw i el j, v, _, hr => by
  by_cases e : i = k
  ·subst e
   simp only [VRep] at hr ⊢
   obtain ⟨ow1, nn1, sz1, es1, b, q1, q2, q3, q4, q5⟩ := hr
   obtain ⟨ow', nn', es', h3, h4⟩ := H.ar _ _ _ _ q1
   exact ⟨ow', nn', _, es', b, h3, by omega, q3, by rw [H.same.1]; exact q4, q5⟩
  ·exact VRep.keepR H.toKeep (by simpa [AV.refs] using e) hr
 | .sm i off len, v, _, hr => by
  by_cases e : i = k
  ·subst e
   simp only [VRep] at hr ⊢
   obtain ⟨ow1, nn1, sz1, es1, q1, q2, q3⟩ := hr
   obtain ⟨ow', nn', es', h3, h4⟩ := H.ar _ _ _ _ q1
   refine ⟨ow', nn', _, es', h3, by omega, ?_⟩
   rw [H.same.1, H.same.2.2]
   exact q3
  ·exact VRep.keepR H.toKeep (by simpa [AV.refs] using e) hr
 | .vb i len, v, _, hr => by
  by_cases e : i = k
  ·subst e
   simp only [VRep] at hr
   obtain ⟨sz1, items, b, q1, _⟩ := hr
   exact absurd q1 (H.bx _ _)
  ·exact VRep.keepR H.toKeep (by simpa [AV.refs] using e) hr
 | .sg vs, v, hf, hr => by
  simp only [AV.soft] at hf
  simp only [VRep] at hr ⊢
  obtain ⟨xs, h1, h2⟩ := hr
  exact ⟨xs, VRepL.keepM H hf h1, h2⟩
 | .tup vs, v, hf, hr => by
  simp only [AV.soft] at hf
  simp only [VRep] at hr ⊢
  obtain ⟨xs, h1, h2⟩ := hr
  exact ⟨xs, h1, VRepL.keepM H hf h2⟩
 | .any, _, _, _ => by simp [VRep]
 | .cl f vs, v, hf, hr => by
  simp only [AV.soft] at hf
  simp only [VRep] at hr ⊢
  obtain ⟨xs, h1, h2⟩ := hr
  exact ⟨xs, VRepL.keepM H hf h1, h2⟩
 | .pq i el j isz el' j', v, hf, hr => VRep.keepR H.toKeep (by simpa [AV.refs, AV.soft] using hf) hr
 | .qs i el j isz off len, v, hf, hr => VRep.keepR H.toKeep (by simpa [AV.refs, AV.soft] using hf) hr
 | .ss i off len, v, _, hr => by
  by_cases e : i = k
  ·subst e
   simp only [VRep] at hr ⊢
   obtain ⟨ow1, nn1, sz1, es1, q1, q2, q3⟩ := hr
   obtain ⟨ow', nn', es', h3, h4⟩ := H.ar _ _ _ _ q1
   refine ⟨ow', nn', _, es', h3, by omega, ?_⟩
   rw [H.same.1, H.same.2.2]
   exact q3
  ·exact VRep.keepR H.toKeep (by simpa [AV.refs] using e) hr
 | .z0 _ _, v, _, hr => by simpa [VRep] using hr
 | .pb i j, v, _, hr => by
  by_cases e : i = k
  ·subst e
   simp only [VRep] at hr
   obtain ⟨sz1, items, b, q1, _⟩ := hr
   exact absurd q1 (H.bx _ _)
  ·exact VRep.keepR H.toKeep (by simpa [AV.refs] using e) hr
 | .ps i, v, _, hr => by
  by_cases e : i = k
  ·subst e
   simp only [VRep] at hr ⊢
   obtain ⟨T, E, s, b, q1, q2, q3⟩ := hr
   obtain ⟨s', h3⟩ := H.sb _ _ _ q1
   exact ⟨T, E, s', b, h3, by rw [H.same.1]; exact q2, q3⟩
  ·exact VRep.keepR H.toKeep (by simpa [AV.refs] using e) hr
theorem VRepL.keepM {k : Nat} {f : AV → Bool} {h h' : Heap} {us us' : List (Nat × U)} {g g' : Gh} (H : KeepM k f h h' us us' g g') : ∀ {as : List AV} {vs : List Value}, AV.softL k as = false → VRepL h us g as vs → VRepL h' us' g' as vs
 | [], _, _, hr => by simpa [VRepL] using hr
 | a :: as, vs, hf, hr => by
  simp only [AV.softL, Bool.or_eq_false_iff] at hf
  simp only [VRepL] at hr ⊢
  obtain ⟨v, r, h1, h2, h3⟩ := hr
  exact ⟨v, r, h1, VRep.keepM H hf.1 h2, VRepL.keepM H hf.2 h3⟩
end

theorem USat.mutG {h h' : Heap} {us : List (Nat × U)} (hu : USat h n0 S0 M0 us g) {k : Nat} {u u' : U} (hm : (k, u) ∈ us) (hsz : h.size ≤ h'.size) (hh : ∀ b, b < h.size → b ∉ g.φ k → h'[b]? = h[b]?)
  (hlike : (∃ d d', u = .own d ∧ u' = .own d') ∨ ∃ ow nn sz es ow' es', u = .ar ow nn sz es ∧ u' = .ar ow' nn sz es' ∧ es'.length = es.length)
  {φ : List Nat} (hnd : φ.Nodup) (hφ : ∀ b ∈ φ, (b ∈ g.φ k ∨ (b < h'.size ∧ (b < n0 → M0 b) ∧ ¬ g.Sh b ∧ b ∉ fp g us)) ∧ Unf h' b) (ho : UOk h' ((k, u') :: killU k (AV.soft k) us) (g.fp1 k φ) k u') :
  USat h' n0 S0 M0 ((k, u') :: killU k (AV.soft k) us) (g.fp1 k φ) ∧ ∀ av v, av.soft k = false → VRep h us g av v → VRep h' ((k, u') :: killU k (AV.soft k) us) (g.fp1 k φ) av v := by
 have hφo : ∀ i, i ≠ k → (g.fp1 k φ).φ i = g.φ i := fun i hi => by simp [Gh.fp1, hi]
 have hφk : (g.fp1 k φ).φ k = φ := by simp [Gh.fp1]
 have hkfp : ∀ x ∈ g.φ k, x ∈ fp g us := fun x hx => mem_fp.2 ⟨_, hm, hx⟩
 have hoth : ∀ i v, (i, v) ∈ us → i ≠ k → ∀ x ∈ g.φ i, h'[x]? = h[x]? := by
  intro i v h1 h2 x hx
  exact hh x (hu.lt x (mem_fp.2 ⟨_, h1, hx⟩)) fun hxk => h2 (fp_apart hu.keys hu.nodup h1 hm hx hxk)
 have hSh : ∀ x, g.Sh x → h'[x]? = h[x]? := fun x hx => hh x (hu.sh x hx).1 fun hxk => (hu.sh x hx).2.2 (hkfp x hxk)
 have H : KeepM k (AV.soft k) h h' us ((k, u') :: killU k (AV.soft k) us) g (g.fp1 k φ) := by
  refine { mem := fun i u h1 h2 => List.mem_cons_of_mem _ (mem_killU h1 h2), β := fun i hi => ⟨rfl, rfl, rfl⟩, blk := ?_, im := ?_, own := ?_, ar := ?_, bx := ?_, sb := ?_, same := ⟨rfl, rfl, rfl⟩ }
  ·intro i u x h1 h2 h3
   exact hoth i u h1 h2 x ((hu.each _ h1).block_mem h3)
  ·intro t d F cs ht hr hok
   have hx : ∀ x ∈ F, h'[x]? = h[x]? := by
    intro x hx
    rcases hok x hx with h1 | ⟨i, rfl, h1, _⟩
    ·exact hSh x h1
    ·obtain ⟨v, hv⟩ := hu.live h1
     exact hoth i v hv (by rintro rfl; exact ht rfl) x h1
   refine ⟨hr.frame hx, fun x hx => ?_⟩
   rcases hok x hx with h1 | ⟨i, rfl, h1, h2⟩
   ·exact .inl h1
   ·exact .inr ⟨i, rfl, by rw [hφo i (by rintro rfl; exact ht rfl)]; exact h1, h2⟩
  ·intro d hd
   rcases hlike with ⟨d1, d2, rfl, rfl⟩ | ⟨ow, nn, sz, es, ow', es', rfl, rfl, _⟩
   ·exact ⟨d2, by simp⟩
   ·have := hu.uniq hm hd; cases this
  ·intro ow nn sz es hd
   rcases hlike with ⟨d1, d2, rfl, rfl⟩ | ⟨ow1, nn1, sz1, es1, ow', es', rfl, rfl, hl⟩
   ·have := hu.uniq hm hd; cases this
   ·have := hu.uniq hm hd
    injection this with z1 z2 z3 z4
    subst z1 z2 z3 z4
    exact ⟨ow', nn1, es', by simp, hl⟩
  ·intro sz items hd
   have := hu.uniq hm hd
   subst this
   rcases hlike with ⟨d1, d2, e1, _⟩ | ⟨ow1, nn1, sz1, es1, ow', es', e1, _⟩ <;> cases e1
  ·intro T E s hd
   have := hu.uniq hm hd
   subst this
   exfalso
   rcases hlike with ⟨d1, d2, e1, _⟩ | ⟨ow1, nn1, sz1, es1, ow', es', e1, _⟩ <;> cases e1
 have hV : ∀ av v, av.soft k = false → VRep h us g av v → VRep h' ((k, u') :: killU k (AV.soft k) us) (g.fp1 k φ) av v := fun av v hf hr => VRep.keepM H hf hr
 have hsub := fp_killU (f := AV.soft k) hφo (us := us)
 have hfp : fp (g.fp1 k φ) ((k, u') :: killU k (AV.soft k) us) = φ ++ fp (g.fp1 k φ) (killU k (AV.soft k) us) := by
  simp only [fp, List.flatMap_cons, hφk]
 have hfpk : ∀ x ∈ fp (g.fp1 k φ) (killU k (AV.soft k) us), ∃ y ∈ us, y.1 ≠ k ∧ x ∈ g.φ y.1 := by
  intro x hx
  obtain ⟨y, hy, hxy⟩ := mem_fp.1 hx
  obtain ⟨hne, u, h1, h2⟩ := of_mem_killU hy
  exact ⟨_, h1, hne, by rw [hφo _ hne] at hxy; exact hxy⟩
 have hall : ∀ x ∈ fp (g.fp1 k φ) ((k, u') :: killU k (AV.soft k) us), x ∈ fp g us ∨ (x < h'.size ∧ (x < n0 → M0 x) ∧ ¬ g.Sh x) := by
  intro x hx
  rw [hfp] at hx
  rcases List.mem_append.1 hx with hx | hx
  ·exact (hφ x hx).1.elim (fun h => .inl (hkfp x h)) (fun h => .inr ⟨h.1, h.2.1, h.2.2.1⟩)
  ·exact .inl (hsub.subset hx)
 have hl2 : u'.isPin = true → u.isPin = true := by
  intro e
  rcases hlike with ⟨d1, d2, rfl, rfl⟩ | ⟨ow1, nn1, sz1, es1, ow', es', rfl, rfl, _⟩
  ·cases e
  ·exact U.isPin_ar.2 (U.isPin_ar.1 e)
 refine ⟨⟨?_, ?_, ?_, ?_, ?_, ?_, ?_, ?_, hu.pin.keepU hm (fun _ => ⟨rfl, rfl⟩) hl2⟩, hV⟩
 ·simp only [List.map_cons, List.nodup_cons, keys_killU]
  exact ⟨by simp [List.mem_filter], hu.keys.filter _⟩
 ·rw [hfp, List.nodup_append]
  refine ⟨hnd, hsub.nodup hu.nodup, ?_⟩
  rintro x hx y hy rfl
  obtain ⟨z, hz, hne, hxz⟩ := hfpk x hy
  rcases (hφ x hx).1 with h1 | h1
  ·exact hne (fp_apart hu.keys hu.nodup hz hm hxz h1)
  ·exact h1.2.2.2 (mem_fp.2 ⟨z, hz, hxz⟩)
 ·intro x hx
  rcases hall x hx with h1 | h1
  ·have := hu.lt x h1; omega
  ·exact h1.1
 ·intro x hx hlt
  rcases hall x hx with h1 | h1
  ·exact hu.low x h1 hlt
  ·exact h1.2.1 hlt
 ·intro i hi
  simp only [List.map_cons, List.mem_cons, not_or, keys_killU] at hi
  rw [hφo i hi.1]
  exact hu.dead i fun hmm => hi.2 (by simp [List.mem_filter, hmm, hi.1])
 ·intro x hx
  have hx : g.Sh x := hx
  obtain ⟨q1, q2, q3⟩ := hu.sh x hx
  exact ⟨by omega, q2, fun h1 => (hall x h1).elim q3 (fun h2 => h2.2.2 hx)⟩
 ·intro x hx
  rcases List.mem_cons.1 hx with rfl | hx
  ·exact ho
  ·obtain ⟨hne, u, h1, h2⟩ := of_mem_killU hx
   rw [h2]
   exact (hu.each _ h1).keepR H.toKeep (fun av hf => .inr fun v hr => hV av v hf hr) h1 hne (hφo _ hne) (fun x hx => hoth _ _ h1 hne x hx) (fun x hx => ⟨hx, hSh x hx⟩)
 ·intro x hx
  rw [hfp] at hx
  rcases List.mem_append.1 hx with hx | hx
  ·exact (hφ x hx).2
  ·obtain ⟨z, hz, hne, hxz⟩ := hfpk x hx
   obtain ⟨c, e, hc⟩ := hu.fz x (mem_fp.2 ⟨z, hz, hxz⟩)
   exact ⟨c, e, by rw [hoth z.1 z.2 hz hne x hxz]; exact hc⟩

theorem USat.mut {h h' : Heap} {us : List (Nat × U)} (hu : USat h n0 S0 M0 us g) {k : Nat} {u u' : U} (hm : (k, u) ∈ us) (hsz : h.size ≤ h'.size) (hh : ∀ b, b < h.size → b ∉ g.φ k → h'[b]? = h[b]?)
  (hlike : (∃ d d', u = .own d ∧ u' = .own d') ∨ ∃ ow nn sz es ow' es', u = .ar ow nn sz es ∧ u' = .ar ow' nn sz es' ∧ es'.length = es.length)
  {φ : List Nat} (hnd : φ.Nodup) (hφ : ∀ b ∈ φ, b ∈ g.φ k ∧ Unf h' b) (ho : UOk h' ((k, u') :: killU k (AV.soft k) us) (g.fp1 k φ) k u') :
  USat h' n0 S0 M0 ((k, u') :: killU k (AV.soft k) us) (g.fp1 k φ) ∧ ∀ av v, av.soft k = false → VRep h us g av v → VRep h' ((k, u') :: killU k (AV.soft k) us) (g.fp1 k φ) av v :=
 hu.mutG hm hsz hh hlike hnd (fun b hb => ⟨.inl (hφ b hb).1, (hφ b hb).2⟩) ho

theorem fits_isAg {d d' : D} {v : Value} (h : d.fits v) (e : d'.isAg = d.isAg) : d'.fits v := by
 cases d <;> cases d' <;> simp_all [D.fits, D.isAg]

theorem s_mcl (h : At n0 S0 M0 w0 st o a w g) {c : Call} {f d : Nat} {X Y : Ax.X} {kk : St → Prop} (ho : o.op = .call c) (hc : c.callee = .value (.func f)) (hl : c.args.size = c.argTypes.size)
  (hx : (c.args.toList.zip c.argTypes.toList).mapM (fun p => resX P p.2 p.1) = some [X, Y]) (hd : o.dst = some d) (hq : mclK (st.ev X) (st.ev Y) P d f st kk) : o.wp P a w (EPost n0 S0 M0 w0 st.n kk) Q' := by
 have hev := evRepL (g := g) h.rep (by simpa using hl) hx
 simp only [List.map_cons, List.map_nil, VRepL] at hev
 obtain ⟨v, r, hvs, hv1, y, r', rfl, hv2, rfl⟩ := hev
 have hs := h.sat
 unfold mclK at hq
 split at hq
 ·next t n hy =>
  rw [hy] at hv2
  have hyv := sc_val hv2
  subst hyv
  have hargs : Array.map a.eval c.args = #[v, .int .i64 n] := by apply Array.ext'; simpa using hvs
  have enter : Callable P f → (execOp a.eval o).run P w = .ok (.enter f #[v, .int .i64 n]) w := by
   rintro ⟨fn, h1, h2, h3⟩
   have h2' : ¬ fn.body = none := by cases hb : fn.body <;> simp_all
   have h3' : ¬ fn.name = "runtime.NumGoroutine" := by simpa using h3
   rw [← hargs]
   simp [execOp, ho, resolve, hc, Act.eval, Deferred.ofValue, invoke, callFunc, h1, h2', h3']

  have unit : ∀ {k : Nat} {u u' : U} {w' : World} {n' : Int} {φ : List Nat}, (k, u) ∈ st.us → w'.os = w.os → w'.tape = w.tape → w'.output = w.output → w.heap.size ≤ w'.heap.size → (∀ b, b < w.heap.size → b ∉ g.φ k → w'.heap[b]? = w.heap[b]?) →
    ((∃ d d', u = .own d ∧ u' = .own d') ∨ ∃ ow nn sz es ow' es', u = .ar ow nn sz es ∧ u' = .ar ow' nn sz es' ∧ es'.length = es.length) → φ.Nodup → (∀ b ∈ φ, b ∈ g.φ k ∧ Unf w'.heap b) →
    UOk w'.heap ((k, u') :: killU k (AV.soft k) st.us) (g.fp1 k φ) k u' → kk ((st.upd k u').set d (.im none (.sc (.int .i64 n')))) → EPost n0 S0 M0 w0 st.n kk (a.put o.dst (.int .i64 n')) w' := by
   intro k u u' w' n' φ hm e1 e2 e3 hsz hh hlike hnd hφ hok hk
   obtain ⟨hU, hV⟩ := h.us.mut hm hsz hh hlike hnd hφ hok
   have hS : Sat n0 S0 M0 w0 (st.upd k u') a w' := by
    refine ⟨hs.ms, hs.dfr, hs.tm, hs.base, e1.trans hs.os, e2.trans hs.tape, e3.trans hs.output, Nat.le_trans hs.size hsz, ?_, _, hU, fun t => killE_rep (fun av v hf hr => hV av v hf hr) (h.rep t)⟩
    intro b hb hM
    have hbw : b < w.heap.size := by have := hs.size; rw [← hs.base] at this; omega
    rw [hh b hbw fun hk' => hM (h.us.low b (mem_fp.2 ⟨_, hm, hk'⟩) hb)]
    exact hs.old b hb hM
   refine ⟨(st.upd k u').set d (.im none (.sc (.int .i64 n'))), rfl, hk, ?_⟩
   have := sat_set hS hU (fun t => killE_rep (fun av v hf hr => hV av v hf hr) (h.rep t)) (d := o.dst) (fun j hj => h.dst j hj) (av := .im none (.sc (.int .i64 n'))) (v := .int .i64 n') (by simp only [VRep, Rep]; exact ⟨[], ⟨rfl, by simp [Value.cells], by simp [Value.oneCell']⟩, by simp [D.fits, Value.oneCell'], by simp⟩)
   rw [hd] at this ⊢
   exact this
  unfold mclX at hq
  split at hq
  ·next i hx1 =>
   unfold mclT at hq
   split at hq
   ·next e hun =>
    obtain ⟨e', n', ⟨hcl, hA⟩, hag, hk⟩ := hq
    have hm := mem_of_lu hun
    rw [hx1] at hv1
    simp only [VRep] at hv1
    obtain ⟨_, rfl⟩ := hv1
    have hU := h.us.each _ hm
    simp only [UOk] at hU
    obtain ⟨p1, p2, p3⟩ := hU
    unfold Oper.wp
    rw [enter hcl, Oper.upon_enter]
    refine (hA w _ (g.φ i) p2 p3 (phi_nodup h.us hm) (fun b hb => h.us.fz b (mem_fp.2 ⟨_, hm, hb⟩))).mono ?_
    rintro e1 w' ⟨rfl, q1, q2, q3, q4, q5, F', q6, q7, q8⟩
    refine unit hm q1 q2 q3 q4 q5 (.inl ⟨_, _, rfl, rfl⟩) q7 q8 ?_ hk
    simp only [UOk, Gh.fp1, if_true]
    exact ⟨p1, q6, fits_isAg p3 hag⟩
   ·exact hq.elim
  ·next i el j sz agg hx1 =>
   unfold mclC at hq
   split at hq
   ·next nn usz es hun =>
    obtain ⟨e', n', ⟨hcl, hA⟩, ⟨hs1, hs2, hs3⟩, hk⟩ := hq
    have hm := mem_of_lu hun
    rw [hx1] at hv1
    simp only [VRep] at hv1
    obtain ⟨nn0, usz0, es0, b, c1, e1, r1, r2, r3, r4, r5, r6, r7, r8, r9⟩ := hv1
    have := h.us.uniq hm r1
    injection this with z1 z2 z3 z4
    subst z2 z3 z4
    obtain ⟨c2, e2, F2, cc, p1, p2, p3, p4, p5, p6, p7⟩ := place (agg := agg) h.us hm r2 r4 r3 hs2 r7
    rw [r5] at p1
    injection p1 with p1
    injection p1 with p1 p1'
    subst p1 p1'
    have hvc : v.cells.toList = cc := by rw [r8]; exact seg_eq p3 p2
    have hU := h.us.each _ hm
    simp only [UOk] at hU
    obtain ⟨hmax, hse, hU⟩ := hU
    rcases hU with ⟨z1, _⟩ | ⟨b', c', e', G, cs, rest, k1, k2, k3, k4, k5, k6, k7, k8⟩
    ·rw [r4] at z1; cases z1
    rw [r4] at k1
    obtain rfl := Option.some.inj k1
    rw [r5] at k2
    injection k2 with k2
    injection k2 with k2 k2'
    subst k2 k2'
    simp only [if_true] at k8
    have hw : j = 0 ∧ sz = usz ∨ (D.at es el).isAg = true := by
     by_cases hA : (D.at es el).isAg = true
     ·exact .inr hA
     ·have hsz1 : (D.at es el).size = 1 := by cases hD : D.at es el <;> simp_all [D.size, D.isAg]
      have : (D.at es el).size = usz := by rw [D.at_eq r2]; exact hse _ (List.getElem_mem r2)
      have hagf : agg = false := by cases agg <;> simp_all
      have := r7 hagf
      left; omega
    have hone : ∀ x ∈ cc, x.oneCell' = true := p4.one
    obtain ⟨j1, j2⟩ := jks_rep w.heap sz agg r7 cc p3 hone
    obtain ⟨A, B, C, rfl, y1, y2, y3⟩ := put_list k6 j1 hse r2 j2 r3 hw
    have y3 := y3 agg hs2 r7
    have hcs : (cs.drop (el * usz + j)).take sz = cc := by
     have h1 : (c1.toList.drop (el * usz + j)).take sz = cc := seg_eq p3 p2
     have l6 := k6.length
     rw [D.sizeL_const hse] at l6
     have hle : el * usz + usz ≤ es.length * usz := by
      have := Nat.mul_le_mul_right usz (show el + 1 ≤ es.length by omega)
      rw [Nat.add_mul] at this; omega
     rw [← h1, k3, List.drop_append_of_le_length (by omega), List.take_append_of_le_length (by simp; omega)]
    have hcs2 : cs.take (el * usz + j) ++ (cc ++ cs.drop (el * usz + j + sz)) = cs := by
     have e1 : cs.drop (el * usz + j + sz) = (cs.drop (el * usz + j)).drop sz := by rw [List.drop_drop]
     rw [← hcs, e1, List.take_append_drop, List.take_append_drop]
    rw [hcs2] at y1
    rw [hcs, ← hvc] at y3
    have hnd := phi_nodup h.us hm
    rw [k8] at hnd
    rw [List.nodup_cons, List.nodup_append, List.nodup_append] at hnd
    have hfitv : (D.sub (D.at es el) j sz agg).fits v := by
     cases agg with
     | true => simp only [if_true] at r9; rw [r9]; exact fits_agg p5
     | false => exact fits_of_one p5 (by simpa using r9)
    have hBφ : ∀ x ∈ B, x ∈ g.φ i := fun x hx => by rw [k8]; simp [hx]
    unfold Oper.wp
    rw [enter hcl, Oper.upon_enter]
    refine (hA w v B y3 hfitv hnd.2.2.1.1 (fun x hx => h.us.fz x (mem_fp.2 ⟨_, hm, hBφ x hx⟩))).mono ?_
    rintro e3 w' ⟨rfl, q1, q2, q3, q4, q5, F', q6, q7, q8⟩

    have hAC : ∀ x ∈ A ++ ([] ++ C), x ∉ B := by
     intro x hx hB
     simp only [List.nil_append, List.mem_append] at hx
     rcases hx with hx | hx
     ·exact hnd.2.2.2 x hx x (by simp [hB]) rfl
     ·exact hnd.2.2.1.2.2 x hB x hx rfl
    have hbB : b ∉ B := fun hB => hnd.1 (by simp [hB])
    have y1' : RepL w'.heap (es.set el (D.put usz (D.at es el) j sz (jks sz agg))) (A ++ ([] ++ C)) cs := y1.frame fun x hx => q5 x (y1.lt x hx) (hAC x hx)
    have hblt : b < w.heap.size := (Array.getElem?_eq_some_iff.1 r5).1
    have hb' : w'.heap[b]? = some (.cells c1 e1 (0, 0)) := by rw [q5 b hblt hbB]; exact r5
    have hel2 : el < (es.set el (D.put usz (D.at es el) j sz (jks sz agg))).length := by simpa using r2
    have hat : D.at (es.set el (D.put usz (D.at es el) j sz (jks sz agg))) el = D.put usz (D.at es el) j sz (jks sz agg) := by
     rw [D.at_eq hel2]; simp
    have hputput : D.put usz (D.put usz (D.at es el) j sz (jks sz agg)) j sz e' = D.put usz (D.at es el) j sz e' := by
     by_cases hwh : j = 0 ∧ sz = usz
     ·simp [D.put, hwh]
     ·have hA := hw.resolve_left hwh
      cases hD : D.at es el with
      | ag l =>
       have hlen : l.length = usz := by
        have h1 : (D.at es el).size = usz := by rw [D.at_eq r2]; exact hse _ (List.getElem_mem r2)
        obtain ⟨F1, F3, FF, d1, d2, d3, _, _, _, hpk, _⟩ := k6.pick r2
        have h2 : Rep w.heap (.ag l) FF d2 ∨ True := .inr trivial
        rw [hD] at h1
        rw [D.at_eq r2] at hD
        rw [hD] at hpk
        simp only [Rep] at hpk
        simp only [D.size, D.sizeL_one hpk.1] at h1
        exact h1
       have hjl : (jks sz agg).cells.length = sz := by
        cases agg with
        | true => simp [jks, D.cells]
        | false => have := r7 rfl; simp [jks, D.cells, this]
       simp only [D.put, hwh, if_false]
       have e1 : (l.take j ++ (jks sz agg).cells).length = j + sz := by rw [List.length_append, hjl, List.length_take, Nat.min_eq_left (by omega)]
       have e2 : (l.take j).length = j := by rw [List.length_take, Nat.min_eq_left (by omega)]
       rw [List.drop_left' e1, List.append_assoc (l.take j), List.take_left' e2]
      | _ => rw [hD] at hA; simp [D.isAg] at hA
    have hw2 : j = 0 ∧ sz = usz ∨ (D.at (es.set el (D.put usz (D.at es el) j sz (jks sz agg))) el).isAg = true := by
     rw [hat]
     by_cases hwh : j = 0 ∧ sz = usz
     ·exact .inl hwh
     ·right
      have hA := hw.resolve_left hwh
      cases hD : D.at es el with
      | ag l => simp [D.put, hwh, D.isAg]
      | _ => rw [hD] at hA; simp [D.isAg] at hA
    obtain ⟨A2, B2, C2, hG, x1, x2, _⟩ := put_list y1' q6 y2 hel2 hs1 r3 hw2
    rw [hat, hputput, List.set_set] at x1 x2
    rw [hvc, hcs2] at x1
    have hB2 : B2 = [] ∨ True := .inr trivial
    have hF'B : ∀ x ∈ F', x ∈ B := fun x hx => (q8 x hx).1
    have hAC2 : ∀ x ∈ A2 ++ C2, x ∈ A ++ ([] ++ C) := by
     intro x hx
     rw [hG]
     rcases List.mem_append.1 hx with hx | hx <;> simp [hx]
    have hndAC : (A ++ ([] ++ C)).Nodup := by
     simp only [List.nil_append]
     exact List.nodup_append.2 ⟨hnd.2.1, hnd.2.2.1.2.1, fun x hx y hy e => hnd.2.2.2 x hx y (by simp [hy]) e⟩
    have hndA2 : (A2 ++ (F' ++ C2)).Nodup := by
     rw [hG, List.nodup_append, List.nodup_append] at hndAC
     refine List.nodup_append.2 ⟨hndAC.1, List.nodup_append.2 ⟨q7, hndAC.2.1.2.1, ?_⟩, ?_⟩
     ·rintro x hx y hy rfl
      exact hAC x (hAC2 x (by simp [hy])) (hF'B x hx)
     ·rintro x hx y hy rfl
      rcases List.mem_append.1 hy with hy | hy
      ·exact hAC x (hAC2 x (by simp [hx])) (hF'B x hy)
      ·exact hndAC.2.2 x hx x (by simp [hy]) rfl
    have hmemφ : ∀ x ∈ A2 ++ (F' ++ C2), x ∈ g.φ i ∧ Unf w'.heap x := by
     intro x hx
     have hcase : x ∈ A ++ ([] ++ C) ∨ x ∈ F' := by
      simp only [List.mem_append] at hx
      rcases hx with hx | hx | hx
      ·exact .inl (hAC2 x (by simp [hx]))
      ·exact .inr hx
      ·exact .inl (hAC2 x (by simp [hx]))
     rcases hcase with hx | hx
     ·have hxφ : x ∈ g.φ i := by
       rw [k8]
       simp only [List.nil_append, List.mem_append] at hx
       rcases hx with hx | hx <;> simp [hx]
      obtain ⟨c3, e3, hc3⟩ := h.us.fz x (mem_fp.2 ⟨_, hm, hxφ⟩)
      exact ⟨hxφ, c3, e3, by rw [q5 x (Array.getElem?_eq_some_iff.1 hc3).1 (hAC x hx)]; exact hc3⟩
     ·exact ⟨hBφ x (hF'B x hx), (q8 x hx).2⟩
    have hbn : b ∉ A2 ++ (F' ++ C2) := by
     intro hb
     simp only [List.mem_append] at hb
     rcases hb with hb | hb | hb
     ·have := hAC2 b (by simp [hb]); simp only [List.nil_append, List.mem_append] at this; exact hnd.1 (by rcases this with h | h <;> simp [h])
     ·exact hbB (hF'B b hb)
     ·have := hAC2 b (by simp [hb]); simp only [List.nil_append, List.mem_append] at this; exact hnd.1 (by rcases this with h | h <;> simp [h])
    refine unit (φ := b :: (A2 ++ (F' ++ C2))) hm q1 q2 q3 q4 ?_ (.inr ⟨_, _, _, _, _, _, rfl, rfl, by simp⟩) (List.nodup_cons.2 ⟨hbn, hndA2⟩) ?_ ?_ hk
    ·intro x hx hxn
     exact q5 x hx fun hB => hxn (hBφ x hB)
    ·intro x hx
     rcases List.mem_cons.1 hx with rfl | hx
     ·exact ⟨by rw [k8]; simp, c1, e1, hb'⟩
     ·exact hmemφ x hx
    ·simp only [UOk, Gh.fp1, if_true]
     exact ⟨by simpa using hmax, x2, .inr ⟨b, c1, e1, A2 ++ (F' ++ C2), cs, rest, r4, hb', k3, k4, by simpa using k5, x1, k7, rfl⟩⟩
   ·exact hq.elim
  ·next t1 e hx1 =>
   obtain ⟨hnp, e', n', ⟨hcl, hA⟩, hk⟩ := hq
   rw [hx1] at hv1
   simp only [VRep] at hv1
   obtain ⟨F, r1, r2, r3⟩ := hv1
   have := noPtr_F hnp r1
   subst this
   unfold Oper.wp
   rw [enter hcl, Oper.upon_enter]
   refine (hA w v [] r1 r2 List.nodup_nil (by simp)).mono ?_
   rintro e1 w' ⟨rfl, q1, q2, q3, q4, q5, F', q6, q7, q8⟩
   have hh : ∀ b, b < w.heap.size → w'.heap[b]? = w.heap[b]? := fun b hb => q5 b hb (by simp)
   obtain ⟨hU, hV⟩ := h.us.wide q4 hh (by rw [hs.base]; exact hs.size) [] (by simp)
   have hS : Sat n0 S0 M0 w0 st a w' := by
    refine ⟨hs.ms, hs.dfr, hs.tm, hs.base, q1.trans hs.os, q2.trans hs.tape, q3.trans hs.output, Nat.le_trans hs.size q4, ?_, _, hU, fun t => hV _ _ (h.rep t)⟩
    intro b hb hM
    have hbw : b < w.heap.size := by have := hs.size; rw [← hs.base] at this; omega
    rw [hh b hbw]
    exact hs.old b hb hM
   refine ⟨st.set d (.im none (.sc (.int .i64 n'))), rfl, hk, ?_⟩
   have := sat_set hS hU (fun t => hV _ _ (h.rep t)) (d := o.dst) (fun j hj => h.dst j hj) (av := .im none (.sc (.int .i64 n'))) (v := .int .i64 n') (by simp only [VRep, Rep]; exact ⟨[], ⟨rfl, by simp [Value.cells], by simp [Value.oneCell']⟩, by simp [D.fits, Value.oneCell'], by simp⟩)
   rw [hd] at this ⊢
   exact this
  ·exact hq.elim
 ·exact hq.elim

end Go.Ax
namespace Go.Ax

variable {P : Program} {n0 : Nat} {S0 M0 : Nat → Prop} {w0 : World}
variable {st : St} {o : Oper} {a : Act} {w : World} {k : KQ} {Q' : Exit → Act → World → Prop} {g : Gh}

def Gh.shr (g : Gh) (b : Nat) : Gh := { g with Sh := fun x => g.Sh x ∨ x = b }

theorem USat.shr {h : Heap} {us : List (Nat × U)} {g : Gh} (hu : USat h n0 S0 M0 us g) {b : Nat} (hb : b < h.size) (hS : b < n0 → S0 b) (hn : b ∉ fp g us) : USat h n0 S0 M0 us (g.shr b) ∧
  ∀ av x, VRep h us g av x → VRep h us (g.shr b) av x := by
 have hok : ∀ t x, x < h.size → g.ok t x → (g.shr b).ok t x := by
  intro t x _ hx
  rcases hx with hx | hx
  ·exact .inl (.inl hx)
  ·exact .inr hx
 refine ⟨⟨hu.keys, hu.nodup, hu.lt, hu.low, hu.dead, ?_, ?_, hu.fz, hu.pin⟩, fun av x hr => VRep.mono (h := h) (h' := h) (us := us) (us' := us) (g := g) (g' := g.shr b) (fun _ h => h) (fun _ _ => rfl) (fun _ _ => ⟨rfl, rfl, rfl⟩) hok hr⟩
 ·intro x hx
  rcases hx with hx | rfl
  ·exact hu.sh x hx
  ·exact ⟨hb, hS, hn⟩
 ·intro x hx
  exact UOk.mono (h := h) (h' := h) (us := us) (us' := us) (g := g) (g' := g.shr b) hx (fun _ h => h) (fun _ _ => rfl) (fun _ _ => ⟨rfl, rfl, rfl⟩) rfl (fun _ _ h => .inl h) hok (hu.each x hx)

theorem pw_shr {h : Heap} {us : List (Nat × U)} (hu : USat h n0 S0 M0 us g) {id el j : Nat} {nn : Option Bool} {usz : Nat} {es : List D} {v : Value} (hr : VRep h us g (.pw id el j) v) (hm : (id, U.ar false nn usz es) ∈ us) :
  ∃ b F, g.β id = some b ∧ Rep h (.pt (D.at es el) j) F v.cells.toList ∧ (D.pt (D.at es el) j).fits v ∧ (∀ x ∈ F, g.Sh x ∨ x = b) := by
 simp only [VRep] at hr
 obtain ⟨ow', nn', usz', es', b, r1, r2, r3, r4, rfl⟩ := hr
 have := hu.uniq hm r1
 injection this with e1 e2 e3 e4
 subst e1; subst e2; subst e3; subst e4
 have ho := hu.each _ hm
 simp only [UOk] at ho
 obtain ⟨_, hs, ho⟩ := ho
 rcases ho with ⟨h0, _⟩ | ⟨b', c, e, G, cs, rest, k1, k2, k3, k4, k5, k6, k7, k8⟩
 ·rw [r4] at h0; cases h0
 rw [r4] at k1
 obtain rfl := Option.some.inj k1
 simp only [Bool.false_eq_true, if_false] at k8
 obtain ⟨F1, F2, F3, c1, c2, c3, g1, g2, p1, p2, p3⟩ := k6.pick r2
 have hsz : (es[el]).size = usz := hs _ (List.getElem_mem r2)
 have l1 : c1.length = el * usz := by
  rw [p1.length, D.sizeL_const (sz := usz) fun d hd => hs d (List.mem_of_mem_take hd), List.length_take, Nat.min_eq_left (Nat.le_of_lt r2)]
 have l2 := p2.length
 rw [D.at_eq r2]
 refine ⟨b, b :: F2, r4, ?_, by simp [D.fits, Value.oneCell'], ?_⟩
 ·unfold Rep
  have hlen : c.toList.length = c.size := by simp
  refine ⟨b, el * usz, c, e, (0, 0), F2, by simp [Value.cells], rfl, by omega, k2, ?_, ?_⟩
  ·rw [k3, g2] at hlen
   simp only [List.length_append, l1, l2] at hlen
   omega
  ·have : (c.toList.drop (el * usz)).take ((es[el]).size) = c2 := by
    rw [k3, g2, ← l1, ← l2]
    simp
   rw [this]
   exact p2
 ·intro x hx
  rcases List.mem_cons.1 hx with rfl | hx
  ·exact .inr rfl
  ·exact .inl (k8.2 x (by rw [g1]; simp [hx]))

theorem leL_refl0 : ∀ (ds : List D), D.LeL ds ds
 | [] => trivial
 | d :: ds => ⟨⟨fun _ F _ h => ⟨F, h, fun _ hb => hb⟩, fun _ h => h⟩, leL_refl0 ds⟩
theorem s_clsL (h : At n0 S0 M0 w0 st o a w g) {c : Call} {f d : Nat} {X : Ax.X} {Ys : List Ax.X} {kk : St → Prop} (ho : o.op = .call c) (hc : c.callee = .value (.func f)) (hl : c.args.size = c.argTypes.size)
  (hx : (c.args.toList.zip c.argTypes.toList).mapM (fun p => resX P p.2 p.1) = some (X :: Ys)) (hd : o.dst = some d) {i el j : Nat} (e1 : st.ev X = .pw i el j) (hq : clsL (st.unit i) P d f i el j (Ys.map st.ev) st kk) : o.wp P a w (EPost n0 S0 M0 w0 st.n kk) Q' := by
 have hev := evRepL (g := g) h.rep (by simpa using hl) hx
 have hs := h.sat
 unfold clsL at hq
 split at hq
 ·next nn usz d1 hun =>
  obtain ⟨⟨rfl, rfl, h0, hall⟩, ds, α, A, hds, ⟨hcs, hC⟩, hk⟩ := hq
  have hm := mem_of_lu hun
  simp only [List.map_cons, VRepL] at hev
  obtain ⟨v, rest, hvs, hv1, hv2⟩ := hev
  rw [e1] at hv1
  simp only [VRep] at hv1
  obtain ⟨ow', nn', usz', es', b, r1, r2, r3, hβ, hv⟩ := hv1
  have := h.us.uniq hm r1
  injection this with z1 z2 z3 z4
  subst z1 z2 z3 z4
  simp only [Nat.zero_mul, Nat.add_zero] at hv
  have hU := h.us.each _ hm
  simp only [UOk] at hU
  obtain ⟨hmax, hsz, hU⟩ := hU
  rcases hU with ⟨z0, _⟩ | ⟨b', c1, e, G, cs, rs, k1, k2, k3, k4, k5, k6, k7, k8⟩
  ·rw [hβ] at z0; cases z0
  rw [hβ] at k1
  obtain rfl := Option.some.inj k1
  simp only [if_true] at k8
  simp only [RepL] at k6
  obtain ⟨F1, F2, x1, x2, rfl, rfl, k6, rfl, rfl⟩ := k6
  simp only [List.append_nil] at k8 k3
  have hd1 : d1.size = usz := hsz d1 (by simp)
  obtain ⟨aa, hA⟩ := hC _ _ _ k6
  have hAs : (A aa).size = usz := (hcs aa).trans hd1
  have hbφ : b ∈ g.φ i := by rw [k8]; simp
  have hφfp : ∀ y ∈ g.φ i, y ∈ fp g st.us := fun y hy => mem_fp.2 ⟨_, hm, hy⟩
  have hblt := h.us.lt b (hφfp b hbφ)
  have hbase : n0 ≤ w.heap.size := by rw [hs.base]; exact hs.size
  have hlen : x1.length = usz := by rw [hA.length, hAs]
  obtain ⟨bb, oo, ee, p, q, root, ⟨hcl, hAF⟩, hroot, hkk⟩ := hk aa b

  have hargs : ArgsRep w.heap (fun x => g.Sh x ∨ x ∈ g.φ i) (.lc b 0 (.pt (A aa) 0) :: ds) (c.args.toList.map a.eval) := by
   rw [hvs]
   simp only [ArgsRep]
   refine ⟨v, rest, b :: F1, rfl, ?_, by rw [hv]; simp [D.fits, Value.oneCell'], fun x hx => .inr (by rw [k8]; exact hx), ?_⟩
   ·rw [hv]
    have hc1 : c1.toList.length = c1.size := by simp
    rw [k3, List.length_append] at hc1
    simp only [Rep]
    refine ⟨.inr (by simp [Value.cells]), b, 0, c1, e, (0, 0), F1, by simp [Value.cells], rfl, by omega, k2, by omega, ?_⟩
    rw [k3, List.drop_zero, hAs, ← hlen, List.take_left]
    exact hA
   ·refine args_rep h.us (fun x => g.Sh x ∨ x ∈ g.φ i) hv2 hds (leL_refl0 _) ?_ (fun av hav x hx => .inl hx)
    intro av hav hsh
    rw [List.all_eq_true.1 hall av hav] at hsh
    cases hsh
  have enter : (execOp a.eval o).run P w = .ok (.enter f (c.args.toList.map a.eval).toArray) w := by
   obtain ⟨fn, h1, h2, h3⟩ := hcl
   have h2' : ¬ fn.body = none := by cases hb : fn.body <;> simp_all
   have h3' : ¬ fn.name = "runtime.NumGoroutine" := by simpa using h3
   have ea : (List.map a.eval c.args.toList).toArray = Array.map a.eval c.args := by apply Array.ext'; simp
   rw [ea]
   simp [execOp, ho, resolve, hc, Act.eval, Deferred.ofValue, invoke, callFunc, h1, h2', h3']
  unfold Oper.wp
  rw [enter, Oper.upon_enter]
  refine (hAF w _ _ hargs).mono ?_
  rintro e2 w' ⟨v', F', G', rfl, hB, hR, hnd, hF, hG⟩
  have hh : ∀ b, b < w.heap.size → w'.heap[b]? = w.heap[b]? := fun b hb => hB.block b hb

  have hok : UOk w.heap ((i, .ar true nn usz [A aa]) :: killU i (AV.soft i) st.us) (g.fp1 i (b :: F1)) i (.ar true nn usz [A aa]) := by
   simp only [UOk, Gh.fp1, if_true]
   refine ⟨by simpa using hmax, by simpa using hAs, .inr ⟨b, c1, e, F1, x1, rs, hβ, k2, k3, k4, by simpa using k5, ?_, k7, rfl⟩⟩
   simp only [RepL]
   exact ⟨F1, [], x1, [], by simp, by simp, hA, ⟨rfl, rfl⟩⟩
  have hnd1 := phi_nodup h.us hm
  rw [k8] at hnd1
  obtain ⟨hU1, hV1⟩ := h.us.mut (h' := w.heap) hm (Nat.le_refl _) (fun _ _ _ => rfl) (.inr ⟨true, nn, usz, [d1], true, [A aa], rfl, rfl, rfl⟩) hnd1 (fun x hx => by
   have hx' : x ∈ g.φ i := by rw [k8]; exact hx
   exact ⟨hx', h.us.fz x (hφfp x hx')⟩) hok
  obtain ⟨hU2, hV2⟩ := hU1.wide hB.size hh hbase [] (by simp)
  have hVt : ∀ t, VRep w'.heap (st.upd i (.ar true nn usz [A aa])).us _ (lk (st.upd i (.ar true nn usz [A aa])).env t) (a.tmps.getD t undef) := fun t => hV2 _ _ (killE_rep (fun av v hf hr => hV1 _ _ hf hr) (h.rep t))
  have hS : Sat n0 S0 M0 w0 (st.upd i (.ar true nn usz [A aa])) a w' := by
   refine ⟨hs.ms, hs.dfr, hs.tm, hs.base, hB.os.trans hs.os, hB.tape.trans hs.tape, hB.output.trans hs.output, Nat.le_trans hs.size hB.size, ?_, _, hU2, hVt⟩
   intro x hx hM
   rw [← hs.old x hx hM]
   exact hh x (by omega)

  simp only [RetRep, RetRepL] at hR
  obtain ⟨vs, rfl, X1, X2, Y1, Y2, v1, ws1, rfl, rfl, hw1, ⟨rfl, ⟨hl1, hl2⟩, hf1⟩, X3, X4, Y3, Y4, v2, ws2, rfl, rfl, rfl, ⟨rfl, ⟨rfl, hp1, hp2⟩, hf2⟩, X5, X6, Y5, Y6, v3, ws3, rfl, rfl, rfl, ⟨rfl, ⟨rfl, hq1, hq2⟩, hf3⟩, rfl, rfl, rfl⟩ := hR
  have hone1 : v1.oneCell' = true := by simpa [D.fits] using hf1
  have hone2 : v2.oneCell' = true := by simpa [D.fits] using hf2
  have hone3 : v3.oneCell' = true := by simpa [D.fits] using hf3
  rw [cells_one hone1] at hl1 hl2
  rw [cells_one hone2] at hp1
  rw [cells_one hone3] at hq1
  have hp1 : v2 = p := by simpa using hp1
  have hq1 : v3 = q := by simpa using hq1
  subst hp1 hq1
  obtain ⟨_, _, _, _, _, _, hpt, _⟩ := hl2
  have hpt : v1 = .pointer (some ⟨bb, oo, none⟩) := by
   rcases hl1 with ⟨_, _, hl1⟩ | hl1
   ·simp at hpt hl1; rw [hpt] at hl1; cases hl1
   ·simpa using hl1
  refine ⟨_, ?_, hkk, ?_⟩
  ·rfl
  ·have := sat_set hS hU2 hVt (d := o.dst) (fun j hj => h.dst j hj) (av := .tup [if root = true then .pw i 0 0 else .im none (.sc (.pointer (some ⟨bb, oo, none⟩))), .im none (.sc v2), .im none (.sc v3)]) (v := .tuple vs) ?_
   ·rw [hd] at this ⊢
    exact this
   ·simp only [VRep, VRepL]
    refine ⟨vs, rfl, v1, _, hw1, ?_, v2, _, rfl, sc_rep (us := (st.upd i (.ar true nn usz [A aa])).us) hone2, v3, _, rfl, sc_rep (us := (st.upd i (.ar true nn usz [A aa])).us) hone3, rfl⟩
    cases hroot' : root with
    | true =>
     obtain ⟨rfl, rfl⟩ := hroot hroot'
     simp only [if_true, VRep]
     exact ⟨true, nn, usz, [A aa], bb, by simp [St.upd], by simp, h0, hβ, by rw [hpt]; simp⟩
    | false =>
     simp only [Bool.false_eq_true, if_false]
     rw [hpt]
     exact sc_rep (us := (st.upd i (.ar true nn usz [A aa])).us) rfl
 ·exact hq.elim

theorem s_cls (h : At n0 S0 M0 w0 st o a w g) {c : Call} {f d : Nat} {X : Ax.X} {Ys : List Ax.X} {kk : St → Prop} (ho : o.op = .call c) (hc : c.callee = .value (.func f)) (hl : c.args.size = c.argTypes.size)
  (hx : (c.args.toList.zip c.argTypes.toList).mapM (fun p => resX P p.2 p.1) = some (X :: Ys)) (hd : o.dst = some d) (hq : clsK (st.ev X) P d f (Ys.map st.ev) st kk) : o.wp P a w (EPost n0 S0 M0 w0 st.n kk) Q' := by
 have hev := evRepL (g := g) h.rep (by simpa using hl) hx
 have hs := h.sat
 unfold clsK at hq
 split at hq
 ·next i el j e1 =>
  rcases hq with hq | hq
  case inr => exact s_clsL h ho hc hl hx hd e1 hq
  unfold clsU at hq
  split at hq
  ·next nn usz es hun =>
   obtain ⟨hall, ds, fs, r, hds, hle, ⟨hcl, hA⟩, hk⟩ := hq
   dsimp only at hk
   have hm := mem_of_lu hun
   simp only [List.map_cons, VRepL] at hev
   obtain ⟨v, rest, hvs, hv1, hv2⟩ := hev
   rw [e1] at hv1
   obtain ⟨b, F, hβ, p1, p2, p3⟩ := pw_shr h.us hv1 hm
   have hbφ : b ∈ g.φ i := (h.us.each _ hm).block_mem hβ
   have hbfp : b ∈ fp g st.us := mem_fp.2 ⟨_, hm, hbφ⟩
   have hblt := h.us.lt b hbfp
   have hbase : n0 ≤ w.heap.size := by rw [hs.base]; exact hs.size

   have hargs : ArgsRep w.heap (fun x => g.Sh x ∨ x = b) fs (c.args.toList.map a.eval) := by
    rw [hvs]
    cases fs with
    | nil => simp [D.LeL] at hle
    | cons e fs =>
     simp only [D.LeL] at hle
     obtain ⟨F', q1, q2⟩ := hle.1.1 _ _ _ p1
     simp only [ArgsRep]
     refine ⟨v, rest, F', rfl, q1, hle.1.2 _ p2, fun x hx => p3 x (q2 x hx), ?_⟩
     refine args_rep h.us (fun x => g.Sh x ∨ x = b) hv2 hds hle.2 ?_ (fun av hav x hx => .inl hx)
     intro av hav hsh
     rw [List.all_eq_true.1 hall av hav] at hsh
     cases hsh
   have enter : (execOp a.eval o).run P w = .ok (.enter f (c.args.toList.map a.eval).toArray) w := by
    obtain ⟨fn, h1, h2, h3⟩ := hcl
    have h2' : ¬ fn.body = none := by cases hb : fn.body <;> simp_all
    have h3' : ¬ fn.name = "runtime.NumGoroutine" := by simpa using h3
    have ea : (List.map a.eval c.args.toList).toArray = Array.map a.eval c.args := by apply Array.ext'; simp
    rw [ea]
    simp [execOp, ho, resolve, hc, Act.eval, Deferred.ofValue, invoke, callFunc, h1, h2', h3']
   unfold Oper.wp
   rw [enter, Oper.upon_enter]
   refine (hA w _ _ hargs).mono ?_
   rintro e2 w' ⟨v', F', G, rfl, hB, hR, hnd, hF, hG⟩
   have hh : ∀ b, b < w.heap.size → w'.heap[b]? = w.heap[b]? := fun b hb => hB.block b hb

   obtain ⟨hU1, hK1⟩ := h.us.del i
   have hb1 : b ∉ fp (g.drop i) (st.del i).us := drop_fp h.us hm b hbφ
   obtain ⟨hU2, hV2⟩ := hU1.shr hblt (fun hlt => hs.ms b hlt (h.us.low b hbfp hlt)) hb1
   obtain ⟨hU3, hV3⟩ := hU2.wide hB.size hh hbase G (fun x hx => by
    rcases hG x hx with h1 | h1
    ·exact .inr h1
    ·exact .inl h1)
   have hsub : ∀ x, x ∈ fp (g.drop i) (st.del i).us → x ∈ fp g st.us := fun x hx => (fp_killU (g := g) (g' := g.drop i) (fun j hj => by simp [Gh.drop, hj])).subset hx
   have hVt : ∀ t, VRep w'.heap (st.del i).us _ (lk (st.del i).env t) (a.tmps.getD t undef) := fun t => hV3 _ _ (hV2 _ _ (killE_rep (fun av v hf hr => VRep.keepR hK1 hf hr) (h.rep t)))
   have hkq : ∃ (hf : (bindR d true r).2 = [] ∨ (st.del i).fresh (bindR d true r).2 = true), kk (((st.del i).addUs (bindR d true r).2).setO (some d) (bindR d true r).1) := by
    generalize (bindR d true r).1 = av at hk
    generalize (bindR d true r).2 = us at hk
    cases us with
    | nil => exact ⟨.inl rfl, hk⟩
    | cons x us => exact ⟨.inr hk.1, hk.2⟩
   obtain ⟨hf, hkk⟩ := hkq
   obtain ⟨g4, hU4, hv4, hV4⟩ := bind_any (st := st.del i) hU3 (n := d) hR hnd (fun x hx hlt => by have := (hF x hx).1; omega)
    (fun x hx hfp => by
     have h1 := (hF x hx).1
     have := h.us.lt x (hsub x hfp)
     omega)
    (fun x hx hsh => by
     have h1 := hF x hx
     rcases hsh with (h2 | h2) | h2
     ·have := (h.us.sh x h2).1; omega
     ·subst h2; omega
     ·exact h1.2.1 h2)
    (fun x hx => (hF x hx).2.2) true (fun _ x hx => .inr hx) hf
   have hS : Sat n0 S0 M0 w0 ((st.del i).addUs (bindR d true r).2) a w' := by
    refine ⟨hs.ms, hs.dfr, hs.tm, hs.base, hB.os.trans hs.os, hB.tape.trans hs.tape, hB.output.trans hs.output, Nat.le_trans hs.size hB.size, ?_, g4, hU4, fun t => hV4 _ _ (hVt t)⟩
    intro x hx hM
    rw [← hs.old x hx hM]
    exact hh x (by omega)
   refine ⟨_, ?_, hkk, ?_⟩
   ·rfl
   ·have := sat_set hS (g := g4) hU4 (fun t => hV4 _ _ (hVt t)) (d := o.dst) (fun j hj => h.dst j hj) hv4
    rw [hd] at this ⊢
    exact this
  ·exact hq.elim
 ·exact hq.elim

end Go.Ax
namespace Go.Ax

variable {P : Program} {n0 : Nat} {S0 M0 : Nat → Prop} {w0 : World}
variable {st : St} {o : Oper} {a : Act} {w : World} {k : KQ} {Q' : Exit → Act → World → Prop} {g : Gh}

theorem at_set {es : List D} {el : Nat} {x : D} (h : el < es.length) : D.at (es.set el x) el = x := by
 simp [D.at, h]

theorem put_put {e x d : D} {usz j : Nat} (hj : j + 1 ≤ usz) (hx : x.isAg = false) (hu : e.size = usz) (hw : j = 0 ∧ usz = 1 ∨ e.isAg = true) (hag : e.isAg = true → ∀ l, e = .ag l → l.length = usz) : D.put usz (D.put usz e j 1 x) j 1 d = D.put usz e j 1 d := by
 by_cases h0 : j = 0 ∧ 1 = usz
 ·simp [D.put, h0]
 ·have h1 : ¬ (j = 0 ∧ usz = 1) := fun h => h0 ⟨h.1, h.2.symm⟩
  have hA := hw.resolve_left h1
  cases e with
  | ag l =>
   have hl := hag rfl l rfl
   have hc : x.cells = [x] := by cases x <;> simp_all [D.cells, D.isAg]
   have e1 : (List.take j l ++ [x]).length = j + 1 := by simp; omega
   simp only [D.put, h0, if_false, hc]
   congr 1
   congr 1
   ·rw [List.append_assoc, List.take_append_of_le_length (by simp; omega), List.take_take, Nat.min_self]
   ·rw [← e1, List.drop_left]
  | _ => simp [D.isAg] at hA

theorem put_same {e q : D} {usz j : Nat} (hj : j + 1 ≤ usz) (hq : D.sub e j 1 false = q) (hqa : q.isAg = false) (hw : j = 0 ∧ usz = 1 ∧ e.isAg = false ∨ e.isAg = true ∧ usz ≠ 1) (hag : ∀ l, e = .ag l → l.length = usz) : D.put usz e j 1 q = e := by
 cases e with
 | ag l =>
  have hl := hag l rfl
  have hlt : j < l.length := by omega
  simp only [D.sub, Bool.false_eq_true, if_false] at hq
  have hg : l.getD j default = l[j] := by simp [List.getD, List.getElem?_eq_getElem hlt]
  rw [hg] at hq
  subst hq
  have hc : (l[j]).cells = [l[j]] := by
   generalize l[j] = x at hqa
   cases x <;> simp_all [D.cells, D.isAg]
  have h0 : ¬ (j = 0 ∧ 1 = usz) := by
   rcases hw with ⟨_, _, h⟩ | ⟨_, h⟩
   ·simp [D.isAg] at h
   ·exact fun h' => h h'.2.symm
  simp only [D.put, h0, if_false, hc]
  congr 1
  rw [List.append_assoc, List.singleton_append, List.getElem_cons_drop, List.take_append_drop]
 | _ =>
  simp only [D.sub] at hq
  subst hq
  have h1 : j = 0 ∧ 1 = usz := by
   rcases hw with h | h
   ·exact ⟨h.1, h.2.1.symm⟩
   ·simp [D.isAg] at h
  simp [D.put, h1]

theorem ag_len {h : Heap} {e : D} {F : List Nat} {cs : List Value} (hr : Rep h e F cs) {usz : Nat} (hu : e.size = usz) : ∀ l, e = .ag l → l.length = usz := by
 rintro l rfl
 simp only [Rep] at hr
 rw [← hu, D.size, D.sizeL_one hr.1]

theorem USat.inner {h : Heap} {us : List (Nat × U)} (hu : USat h n0 S0 M0 us g) {k b el j isz : Nat} {nn nn' : Option Bool} {usz : Nat} {es ds : List D} (hm : (k, U.ar true nn usz es) ∈ us) (hb : g.β k = some b)
  (hel : el < es.length) (hj : j + 1 ≤ usz) (hw : j = 0 ∧ usz = 1 ∧ (D.at es el).isAg = false ∨ (D.at es el).isAg = true ∧ usz ≠ 1) (hd : D.sub (D.at es el) j 1 false = .ls nn' isz ds) {c : Array Value} {e : TypeId} (hc : h[b]? = some (.cells c e (0, 0)))
  {b' off' len' cap' : Nat} (hcv : c[el * usz + j]? = some (.slice (some ⟨b', off', none⟩) len' cap')) (hne : ds ≠ []) :
  ∃ c' e' F1, len' = ds.length ∧ h[b']? = some (.cells c' e' (0, 0)) ∧ b' ≠ b ∧ off' + cap' * isz ≤ c'.size ∧ ds.length ≤ cap' ∧ ds.length ≤ maxEl ∧ (∀ d ∈ ds, d.size = isz) ∧ RepL h ds F1 ((c'.toList.drop off').take (ds.length * isz)) ∧ b' ∈ g.φ k ∧
   ∀ (h' : Heap) (c'' : Array Value) (ds2 : List D) (F2 : List Nat), h'.size = h.size → h'[b']? = some (.cells c'' e' (0, 0)) → (∀ x, x ≠ b' → h'[x]? = h[x]?) → c''.size = c'.size → ds2.length = ds.length → (∀ d ∈ ds2, d.size = isz) → F2.Sublist F1 →
    RepL h ds2 F2 ((c''.toList.drop off').take (ds.length * isz)) → ∃ g', USat h' n0 S0 M0 ((k, .ar true nn usz (inSet es usz el j (.ls nn' isz ds2))) :: killU k (AV.soft k) us) g' ∧
     ∀ av v, av.soft k = false → VRep h us g av v → VRep h' ((k, .ar true nn usz (inSet es usz el j (.ls nn' isz ds2))) :: killU k (AV.soft k) us) g' av v := by
 have ho := hu.each _ hm
 simp only [UOk] at ho
 obtain ⟨hmax, hs, ho⟩ := ho
 rcases ho with ⟨z1, _⟩ | ⟨b0, c0, e0, G, cs, rest, k1, k2, k3, k4, k5, k6, k7, k8⟩
 ·rw [hb] at z1; cases z1
 rw [hb] at k1
 obtain rfl := Option.some.inj k1
 rw [hc] at k2
 injection k2 with k2
 injection k2 with k2 k2'
 subst k2 k2'
 simp only [if_true] at k8
 have hsz : (D.at es el).size = usz := by rw [D.at_eq hel]; exact hs _ (List.getElem_mem hel)
 have hw' : j = 0 ∧ 1 = usz ∨ (D.at es el).isAg = true := hw.elim (fun h => .inl ⟨h.1, h.2.1.symm⟩) (fun h => .inr h.1)
 have hle : el * usz + usz ≤ es.length * usz := by
  have := Nat.mul_le_mul_right usz (show el + 1 ≤ es.length by omega)
  rw [Nat.add_mul] at this; omega
 have hcl := k6.length
 rw [D.sizeL_const hs] at hcl
 have hcv2 : cs[el * usz + j]? = some (.slice (some ⟨b', off', none⟩) len' cap') := by
  have h1 : c.toList[el * usz + j]? = some (.slice (some ⟨b', off', none⟩) len' cap') := by rw [Array.getElem?_toList]; exact hcv
  rw [k3, List.getElem?_append_left (by omega)] at h1
  exact h1
 generalize hcell : Value.slice (some ⟨b', off', none⟩) len' cap' = cell at hcv hcv2
 have hjk : Rep h D.jk [] [cell] := by
  simp only [Rep]
  exact ⟨trivial, cell, rfl, by rw [← hcell]; rfl⟩
 obtain ⟨A, B, C, rfl, y1, y2, y3⟩ := put_list k6 hjk hs hel (sz := 1) (by simp [D.size]) hj hw'
 have y3 := y3 false (by simp) (by simp)
 have hseg : (cs.drop (el * usz + j)).take 1 = [cell] := by
  have hlt : el * usz + j < cs.length := (List.getElem?_eq_some_iff.1 hcv2).1
  rw [List.drop_eq_getElem_cons hlt]
  have := (List.getElem?_eq_some_iff.1 hcv2).2
  simp [this]
 have hcs2 : cs.take (el * usz + j) ++ ([cell] ++ cs.drop (el * usz + j + 1)) = cs := by
  have e1 : cs.drop (el * usz + j + 1) = (cs.drop (el * usz + j)).drop 1 := by rw [List.drop_drop]
  rw [← hseg, e1, List.take_append_drop, List.take_append_drop]
 rw [hcs2] at y1
 rw [hseg, hd] at y3
 simp only [Rep] at y3
 rcases y3 with ⟨p, q1, q2, _⟩ | ⟨b1, o1, cap1, c', e', fr, F1, q1, rfl, q3, q4, q5, q6, q7, q8, q9⟩
 ·exact absurd q2 hne
 rw [← hcell] at q1
 simp only [List.cons.injEq, Value.slice.injEq, Option.some.injEq, Addr.mk.injEq, and_true] at q1
 obtain ⟨⟨rfl, rfl⟩, rfl, rfl⟩ := q1
 have hnd := phi_nodup hu hm
 rw [k8] at hnd
 have hφin : ∀ x ∈ b :: (A ++ (b' :: F1 ++ C)), x ∈ fp g us := fun x hx => mem_fp.2 ⟨_, hm, by rw [k8]; exact hx⟩
 have hb'φ : b' ∈ g.φ k := by rw [k8]; simp
 obtain ⟨cz, ez, hz⟩ := hu.fz b' (mem_fp.2 ⟨_, hm, hb'φ⟩)
 rw [q6] at hz
 injection hz with hz
 injection hz with hz1 hz2 hz3
 subst hz3
 have hbb : b' ≠ b := by
  rintro rfl
  exact (List.nodup_cons.1 hnd).1 (by simp)
 refine ⟨c', e', F1, rfl, q6, hbb, q7, q4, q5, q8, q9, hb'φ, ?_⟩
 intro h' c'' ds2 F2 hhs hhb hh hcs hl2 hs2 hsub hr2
 have hAC : ∀ x ∈ A ++ ([] ++ C), x ≠ b' := by
  rintro x hx rfl
  rw [List.nodup_cons, List.nodup_append, List.cons_append, List.nodup_cons] at hnd
  rcases List.mem_append.1 hx with hx | hx
  ·exact hnd.2.2.2 x hx x (by simp) rfl
  ·exact hnd.2.2.1.1 (by simp at hx; simp [hx])
 have hF1b : b' ∉ F1 := by
  intro hx
  rw [List.nodup_cons, List.nodup_append, List.cons_append, List.nodup_cons] at hnd
  exact hnd.2.2.1.1 (by simp [hx])
 have y1' : RepL h' (es.set el (D.put usz (D.at es el) j 1 D.jk)) (A ++ ([] ++ C)) cs := y1.frame fun x hx => hh x (hAC x hx)
 have hnew : Rep h' (.ls nn' isz ds2) (b' :: F2) [cell] := by
  simp only [Rep]
  refine .inr ⟨b', off', cap', c'', e', (0, 0), F2, by rw [← hcell, hl2], rfl, q3, by omega, by omega, hhb, by omega, hs2, ?_⟩
  rw [hl2]
  exact hr2.frame fun x hx => hh x (fun e => hF1b (e ▸ hsub.subset hx))
 have hel2 : el < (es.set el (D.put usz (D.at es el) j 1 D.jk)).length := by simpa using hel
 have hpag : ∀ l, D.at es el = .ag l → l.length = usz := by
  have := k6.pick hel
  obtain ⟨_, F2', _, _, c2, _, _, _, _, r2, _⟩ := this
  rw [D.at_eq hel]
  rw [D.at_eq hel] at hsz
  exact ag_len r2 hsz
 have hpp : D.put usz (D.put usz (D.at es el) j 1 D.jk) j 1 (.ls nn' isz ds2) = D.put usz (D.at es el) j 1 (.ls nn' isz ds2) :=
  put_put hj rfl hsz (hw.elim (fun h => .inl ⟨h.1, h.2.1⟩) (fun h => .inr h.1)) (fun _ => hpag)
 have hw2 : j = 0 ∧ 1 = usz ∨ (D.at (es.set el (D.put usz (D.at es el) j 1 D.jk)) el).isAg = true := by
  rw [at_set hel]
  rcases hw with h1 | h1
  ·exact .inl ⟨h1.1, h1.2.1.symm⟩
  ·right
   have h0 : ¬ (j = 0 ∧ 1 = usz) := fun h => h1.2 h.2.symm
   cases hE : D.at es el with
   | ag l => simp [D.put, h0, D.isAg]
   | _ => rw [hE] at h1; simp [D.isAg] at h1
 obtain ⟨A2, B2, C2, hABC, z1, z2, z3⟩ := put_list y1' hnew y2 hel2 (sz := 1) (by simp [D.size]) hj hw2
 have z3 := z3 false (by simp) (by simp)
 rw [hseg, at_set hel] at z3
 have hB2 : B2 = [] := by
  have : D.sub (D.put usz (D.at es el) j 1 D.jk) j 1 false = D.jk := by
   by_cases h0 : j = 0 ∧ 1 = usz
   ·simp [D.put, h0, D.sub]
   ·have h1 := hw'.resolve_left h0
    cases hE : D.at es el with
    | ag l =>
     have hl := hpag l hE
     simp only [D.put, h0, if_false, D.sub, Bool.false_eq_true, D.cells]
     rw [List.append_assoc, List.getD_eq_getElem?_getD, List.getElem?_append_right (by simp; omega)]
     simp
     rw [show j - min j l.length = 0 by omega]
     rfl
    | _ => rw [hE] at h1; simp [D.isAg] at h1
  rw [this] at z3
  simp only [Rep] at z3
  exact z3.1
 subst hB2
 rw [hcs2, at_set hel, hpp, List.set_set] at z1
 rw [at_set hel, hpp, List.set_set] at z2
 simp only [List.nil_append] at hABC
 have hperm : (A2 ++ ((b' :: F2) ++ C2)).Perm ((b' :: F2) ++ (A ++ C)) := by
  rw [hABC]
  exact (List.perm_append_comm_assoc _ _ _)
 have hnd2 : (b :: (A2 ++ ((b' :: F2) ++ C2))).Nodup := by
  refine (List.Perm.cons b hperm).nodup_iff.2 ?_
  have hp1 : (b :: (A ++ (b' :: F1 ++ C))).Perm (b :: ((b' :: F1) ++ (A ++ C))) := List.Perm.cons b (List.perm_append_comm_assoc _ _ _)
  have := hp1.nodup_iff.1 hnd
  refine List.Sublist.nodup ?_ this
  exact List.Sublist.cons_cons _ (List.Sublist.append (List.Sublist.cons_cons _ hsub) (List.Sublist.refl _))
 have hin2 : ∀ x ∈ b :: (A2 ++ ((b' :: F2) ++ C2)), x ∈ g.φ k := by
  intro x hx
  rw [k8]
  rcases List.mem_cons.1 hx with rfl | hx
  ·simp
  ·have := hperm.subset hx
   simp only [List.mem_append, List.mem_cons] at this ⊢
   rcases this with (h1 | h1) | h1 | h1
   ·exact .inr (.inr (.inl (.inl h1)))
   ·exact .inr (.inr (.inl (.inr (hsub.subset h1))))
   ·exact .inr (.inl h1)
   ·exact .inr (.inr (.inr h1))
 have hunf : ∀ x ∈ b :: (A2 ++ ((b' :: F2) ++ C2)), Unf h' x := by
  intro x hx
  by_cases e : x = b'
  ·subst e; exact ⟨_, _, hhb⟩
  ·obtain ⟨c1, e1, h1⟩ := hu.fz x (mem_fp.2 ⟨_, hm, hin2 x hx⟩)
   exact ⟨c1, e1, by rw [hh x e]; exact h1⟩
 have hok : UOk h' ((k, .ar true nn usz (inSet es usz el j (.ls nn' isz ds2))) :: killU k (AV.soft k) us) (g.fp1 k (b :: (A2 ++ ((b' :: F2) ++ C2)))) k (.ar true nn usz (inSet es usz el j (.ls nn' isz ds2))) := by
  simp only [UOk, Gh.fp1, if_true]
  refine ⟨by simpa [inSet] using hmax, z2, .inr ⟨b, c, e, _, cs, rest, hb, by rw [hh b (Ne.symm hbb)]; exact hc, k3, k4, by simpa [inSet] using k5, z1, k7, rfl⟩⟩
 obtain ⟨m1, m2⟩ := hu.mut (h' := h') hm (by omega) (fun x _ hx => hh x (fun e => hx (e ▸ hb'φ))) (.inr ⟨true, nn, usz, es, true, inSet es usz el j (.ls nn' isz ds2), rfl, rfl, by simp [inSet]⟩) hnd2 (fun x hx => ⟨hin2 x hx, hunf x hx⟩) hok
 exact ⟨_, m1, m2⟩

theorem s_st1 (h : At n0 S0 M0 w0 st o a w g) {t u1 u2 : TypeId} {sz : Nat} {p x : Operand} {A X : Ax.X} {f : St → Prop} (ho : o.op = .store t p x) (hd : o.dst = none) (hp : resX P u1 p = some A) (hx : resX P u2 x = some X)
  (hz : szOf P t = some sz) (hq : stK0 (st.ev A) (st.ev X) st sz f) : o.wp P a w (EPost n0 S0 M0 w0 st.n f) Q' := by
 by_cases hne : ∀ id el j isz el' j', st.ev A ≠ .pq id el j isz el' j'
 ·exact s_st0 h hne ho hd hp hx hz hq
 have ep := h.ev_ hp
 have ex := h.ev_ hx
 unfold stK0 at hq
 split at hq
 ·next id el j e1 => exact absurd (fun _ _ _ _ _ _ => by rw [e1]; simp) hne
 ·next id el j isz el' j' e1 =>
  rw [e1] at ep
  simp only [VRep] at ep
  obtain ⟨ow0, nn0, usz0, es0, b, c, ty, b', off', len', cap', r1, r2, r3, r4, r5, r6, hv⟩ := ep
  obtain ⟨own, d, st', g', F, hk, T, p1, p2, p3, p4, p5⟩ := takeN_ok 12 h.us (Took.refl h.us h.rep) ex hq
  simp only [stD, stQ] at hk
  split at hk
  ·next nn usz es hun =>
   unfold stI at hk
   split at hk
   ·next nn' sz' ds hds =>
    obtain ⟨⟨rfl, q1, q2, q3, q4, q5, q6, q7, q8⟩, hf⟩ := hk
    have hm := mem_of_lu hun
    obtain ⟨u0, hm0, hlike⟩ := T.mem _ _ hm
    have := h.us.uniq hm0 r1
    subst this
    simp only [U.like] at hlike
    obtain ⟨rfl, hlen⟩ := hlike
    obtain ⟨gb, _, gc⟩ := T.gh _ _ hm
    have hβ : g'.β id = some b := by rw [gb]; exact r4
    obtain ⟨c', e', F1, rfl, i1, i2, i3, i4, imax, i5, i6, i8, i7⟩ := T.us.inner hm hβ q4 r3 q6 hds r5 r6 (by rintro rfl; simp at q5)
    have hF : F = [] := noPtr_F q8 p1
    subst hF
    have hvc : (a.eval x).cells.size = sz := by
     have := p1.length
     simp at this; omega
    have hle : el' * sz' + sz' ≤ ds.length * sz' := by
     have := Nat.mul_le_mul_right sz' (show el' + 1 ≤ ds.length by omega)
     rw [Nat.add_mul] at this; omega
    have hle2 : ds.length * sz' ≤ cap' * sz' := Nat.mul_le_mul_right _ i4
    have hrun := run_st (P := P) (w := w) hz (off := off' + el' * sz' + j') hvc i1 (by omega) p1.one
    have hw6 : j' = 0 ∧ sz = sz' ∨ (D.at ds el').isAg = true := q7
    obtain ⟨A1, B1, C1, rfl, y1, y2, _⟩ := put_list i6 p1 i5 q5 q1 q3 hw6
    have hl6 := i6.length
    have hcl : ((c'.toList.drop off').take (ds.length * sz')).length = ds.length * sz' := by simp; omega
    generalize hc2 : (c'.toList.take (off' + el' * sz' + j') ++ (a.eval x).cells.toList ++ c'.toList.drop (off' + el' * sz' + j' + sz)).toArray = c2 at hrun
    have hvl : (a.eval x).cells.toList.length = sz := by simpa using hvc
    have hc'l : c'.toList.length = c'.size := by simp
    have hsz2 : c2.size = c'.size := by
     rw [← hc2]
     simp only [List.size_toArray, List.length_append, List.length_take, List.length_drop, hvl, hc'l]
     omega
    have hseg2 : (c2.toList.drop off').take (ds.length * sz') = ((c'.toList.drop off').take (ds.length * sz')).take (el' * sz' + j') ++ ((a.eval x).cells.toList ++ ((c'.toList.drop off').take (ds.length * sz')).drop (el' * sz' + j' + sz)) := by
     rw [← hc2]
     apply List.ext_getElem?
     intro i
     simp only [List.getElem?_take, List.getElem?_drop, List.getElem?_append, List.length_take, List.length_append, List.length_drop, hvl, hc'l]
     have z1 : min (off' + el' * sz' + j') c'.size = off' + el' * sz' + j' := by omega
     have z2 : min (el' * sz' + j') (min (ds.length * sz') (c'.size - off')) = el' * sz' + j' := by omega
     rw [z1, z2]
     by_cases g1 : i < ds.length * sz'
     ·rw [if_pos g1]
      by_cases g2 : i < el' * sz' + j'
      ·rw [if_pos (by omega), if_pos (by omega), if_pos (by omega), if_pos g2, if_pos g2, if_pos g1]
      ·by_cases g3 : i < el' * sz' + j' + sz
       ·rw [if_pos (by omega), if_neg (by omega), if_neg g2, if_pos (by omega)]
        congr 1; omega
       ·rw [if_neg (by omega), if_neg g2, if_neg (by omega), if_pos (by omega)]
        congr 1; omega
     ·rw [if_neg g1, if_neg (by omega), if_neg (by omega), if_neg (by omega)]
    obtain ⟨g2, hU2, hV2⟩ := i7 (w.setRow b' c2).heap c2 (ds.set el' (D.put sz' (D.at ds el') j' sz d)) (A1 ++ ([] ++ C1)) (setRow_size _ _ _) (setRow_heap w b' c' _ e' _ i1) (fun y hy => setRow_other w b' y _ hy) hsz2 (by simp) y2
     (by simp only [List.nil_append]; exact List.Sublist.append (List.Sublist.refl _) (List.sublist_append_right _ _)) (by rw [hseg2]; exact y1)
    have hrun' : (execOp a.eval o).run P w = .ok .skip (w.setRow b' c2) := by
     simp [execOp, ho, hv, hrun]
    unfold Oper.wp
    rw [hrun', Oper.upon_skip, hd]
    have hs0 := h.sat
    refine ⟨st'.upd id (.ar true nn usz0 (inSet es usz0 el j (.ls nn' sz' (ds.set el' (D.put sz' (D.at ds el') j' sz d))))), T.n, hf, hs0.ms, hs0.dfr, ?_, hs0.base, hs0.os, hs0.tape, hs0.output, ?_, ?_, g2, hU2, fun t => killE_rep (fun av v hf hr => hV2 _ _ hf hr) (T.rep t)⟩
    ·show a.tmps.size = _
     rw [hs0.tm]
     exact T.n.symm
    ·rw [setRow_size]; exact hs0.size
    ·intro y hy hmy
     have : y ≠ b' := by
      rintro rfl
      exact hmy (T.us.low y (mem_fp.2 ⟨_, hm, i8⟩) hy)
     rw [setRow_other w b' y _ this]
     exact hs0.old y hy hmy
   ·exact hk.elim
  ·exact hk.elim
 ·exact hq.elim

theorem s_stA (h : At n0 S0 M0 w0 st o a w g) {t u1 u2 : TypeId} {sz : Nat} {p x : Operand} {A X : Ax.X} {f : St → Prop} {tk : Option Nat} {b q id : Nat} (ho : o.op = .store t p x) (hd : o.dst = none) (hp : resX P u1 p = some A) (hx : resX P u2 x = some X)
  (hz : szOf P t = some sz) (e1 : st.ev A = .im tk (.sc (.pointer (some ⟨b, q, none⟩)))) (hq : takeN 12 st (st.ev X) (stA id b q sz f)) : o.wp P a w (EPost n0 S0 M0 w0 st.n f) Q' := by
 have ep := h.ev_ hp
 rw [e1] at ep
 have hv := sc_val ep
 have ex := h.ev_ hx
 obtain ⟨own, d, st', g', F, hk, T, p1, p2, p3, p4, p5⟩ := takeN_ok 12 h.us (Took.refl h.us h.rep) ex hq
 simp only [stA, stAu] at hk
 split at hk
 ·next nn usz d1 hun =>
  obtain ⟨rfl, d2, ⟨q1, q2, q3⟩, hf⟩ := hk
  have hm := mem_of_lu hun
  have hU := T.us.each _ hm
  simp only [UOk] at hU
  obtain ⟨hmax, hs, hU⟩ := hU
  rcases hU with ⟨_, z1, _⟩ | ⟨b1, c1, e2, G, cs, rest, k1, k2, k3, k4, k5, k6, k7, k8⟩
  ·cases z1
  simp only [if_true] at k8
  simp only [RepL] at k6
  obtain ⟨F1, F2, x1, x2, rfl, rfl, k6, rfl, rfl⟩ := k6
  simp only [List.append_nil] at k8 k3
  have hnd := phi_nodup T.us hm
  rw [k8] at hnd
  have hFF := p3.1 rfl
  have hφfp : ∀ y ∈ g'.φ id, y ∈ fp g' st'.us := fun y hy => mem_fp.2 ⟨_, hm, hy⟩
  have hdis : ∀ y ∈ F1, y ∉ F := fun y hy hyF => (hFF.2 y hyF).2.2.1 (hφfp y (by rw [k8]; simp [hy]))
  obtain ⟨c, e, fr, m1, m2, m3, m4⟩ := q3 w.heap F1 F x1 (a.eval x).cells.toList k6 (List.nodup_cons.1 hnd).2 p1 hFF.1 hdis
  have hbφ : b ∈ g'.φ id := by rw [k8]; simp [m1]
  obtain ⟨cz, ez, hzz⟩ := T.us.fz b (hφfp b hbφ)
  rw [m2] at hzz
  injection hzz with hzz
  injection hzz with hz1 hz2 hz3
  subst hz3
  have hvc : (a.eval x).cells.size = sz := by
   have := p1.length
   simp at this; omega
  have hrun := run_st (P := P) (w := w) hz (off := q) hvc m2 m3 p1.one
  generalize hnew : (c.toList.take q ++ (a.eval x).cells.toList ++ c.toList.drop (q + sz)).toArray = new at hrun
  have hother : ∀ y, y ≠ b → (w.setRow b new).heap[y]? = w.heap[y]? := fun y hy => setRow_other w b y _ hy
  have hbb : (w.setRow b new).heap[b]? = some (.cells new e (0, 0)) := setRow_heap w b c _ e _ m2
  obtain ⟨F', n1, n2, n3⟩ := m4 (w.setRow b new).heap new hother hbb (by rw [← hnew]; simp)
  have hb1b : b1 ≠ b := fun e => (List.nodup_cons.1 hnd).1 (e ▸ m1)
  have hb1 : b1 ∈ g'.φ id := by rw [k8]; simp
  have hok : UOk (w.setRow b new).heap ((id, .ar true nn usz [d2]) :: killU id (AV.soft id) st'.us) (g'.fp1 id (b1 :: F')) id (.ar true nn usz [d2]) := by
   simp only [UOk, Gh.fp1, if_true]
   refine ⟨by simpa using hmax, ?_, .inr ⟨b1, c1, e2, F', x1, rest, k1, by rw [hother b1 hb1b]; exact k2, k3, k4, by simpa using k5, ?_, k7, rfl⟩⟩
   ·have := hs d1 (by simp)
    simp [q1, this]
   ·simp only [RepL]
    exact ⟨F', [], x1, [], by simp, by simp, n1, ⟨rfl, rfl⟩⟩
  have hunf : ∀ y, (y ∈ g'.φ id ∨ y ∈ F) → Unf (w.setRow b new).heap y := by
   intro y hy
   by_cases ey : y = b
   ·subst ey; exact ⟨_, _, hbb⟩
   ·have : Unf w.heap y := hy.elim (fun hy => T.us.fz y (hφfp y hy)) (fun hy => h.us.fz y (hFF.2 y hy).2.2.2)
    obtain ⟨c3, e3, h3⟩ := this
    exact ⟨c3, e3, by rw [hother y ey]; exact h3⟩
  have hin : ∀ y ∈ b1 :: F', y ∈ g'.φ id ∨ y ∈ F := by
   intro y hy
   rcases List.mem_cons.1 hy with rfl | hy
   ·exact .inl hb1
   ·rcases n3 y hy with hy | hy
    ·exact .inl (by rw [k8]; simp [hy])
    ·exact .inr hy
  have hnd2 : (b1 :: F').Nodup := by
   refine List.nodup_cons.2 ⟨fun hy => ?_, n2⟩
   rcases n3 b1 hy with hy | hy
   ·exact (List.nodup_cons.1 hnd).1 hy
   ·exact (hFF.2 b1 hy).2.2.1 (hφfp b1 hb1)
  obtain ⟨hU2, hV2⟩ := T.us.mutG (h' := (w.setRow b new).heap) hm (by rw [setRow_size]; exact Nat.le_refl _) (fun y _ hy => hother y (fun e => hy (e ▸ hbφ))) (.inr ⟨true, nn, usz, [d1], true, [d2], rfl, rfl, rfl⟩) hnd2
   (fun y hy => ⟨(hin y hy).elim .inl fun hy => .inr ⟨by rw [setRow_size]; exact h.us.lt y (hFF.2 y hy).2.2.2, (hFF.2 y hy).1, (hFF.2 y hy).2.1, (hFF.2 y hy).2.2.1⟩, hunf y (hin y hy)⟩) hok
  have hrun' : (execOp a.eval o).run P w = .ok .skip (w.setRow b new) := by
   simp [execOp, ho, hv, hrun]
  unfold Oper.wp
  rw [hrun', Oper.upon_skip, hd]
  have hs0 := h.sat
  refine ⟨st'.upd id (.ar true nn usz [d2]), T.n, hf, hs0.ms, hs0.dfr, ?_, hs0.base, hs0.os, hs0.tape, hs0.output, ?_, ?_, _, hU2, fun t => killE_rep (fun av v hf hr => hV2 _ _ hf hr) (T.rep t)⟩
  ·show a.tmps.size = _
   rw [hs0.tm]
   exact T.n.symm
  ·rw [setRow_size]; exact hs0.size
  ·intro y hy hmy
   have : y ≠ b := by
    rintro rfl
    exact hmy (T.us.low y (hφfp y hbφ) hy)
   rw [setRow_other w b y _ this]
   exact hs0.old y hy hmy
 ·exact hk.elim

theorem RepL.spl {h : Heap} {es X : List D} {G : List Nat} {cs vc : List Value} {sz off : Nat} (hr : RepL h es G cs) (hs : ∀ d ∈ es, d.size = sz) (hx : RepL h X [] vc) (hl : off + X.length ≤ es.length) (hv : vc.length = X.length * sz) :
  ∃ G2, RepL h (es.take off ++ (X ++ es.drop (off + X.length))) G2 (cs.take (off * sz) ++ (vc ++ cs.drop (off * sz + X.length * sz))) ∧ G2.Sublist G := by
 have e : es = es.take off ++ ((es.drop off).take X.length ++ (es.drop off).drop X.length) := by rw [List.take_append_drop, List.take_append_drop]
 have hr' : RepL h (es.take off ++ ((es.drop off).take X.length ++ (es.drop off).drop X.length)) G cs := by rw [← e]; exact hr
 obtain ⟨F1, F23, c1, c23, rfl, rfl, s1, s23⟩ := hr'.split
 obtain ⟨F2, F3, c2, c3, rfl, rfl, s2, s3⟩ := s23.split
 have l1 : c1.length = off * sz := by
  rw [s1.length, D.sizeL_const (sz := sz) fun d hd => hs d (List.mem_of_mem_take hd), List.length_take, Nat.min_eq_left (by omega)]
 have l2 : c2.length = X.length * sz := by
  rw [s2.length, D.sizeL_const (sz := sz) fun d hd => hs d (List.mem_of_mem_drop (List.mem_of_mem_take hd)), List.length_take, List.length_drop, Nat.min_eq_left (by omega)]
 refine ⟨F1 ++ ([] ++ F3), ?_, ?_⟩
 ·rw [← l1, ← l2]
  have e2 : (c1 ++ (c2 ++ c3)).drop (c1.length + c2.length) = c3 := by rw [← List.append_assoc, ← List.length_append, List.drop_left]
  rw [List.take_left, e2, ← List.drop_drop]
  exact s1.append (hx.append s3)
 ·simp only [List.nil_append]
  exact List.Sublist.append (List.Sublist.refl _) (List.sublist_append_right _ _)

theorem copy_run {t u e : TypeId} {sz : Nat} (ht : P.underlying t = some (.slice e)) (hz : szOf P e = some sz) {ty : TypeId} {dst src : Value} {ao : Option Addr} {dl dc : Nat} (hdst : dst = .slice ao dl dc) {nn : Option Bool} {ds : List D} {F : List Nat}
  (hsrc : Rep w.heap (.ls nn sz ds) F [src]) (hnp : noPtrs ds = true) :
  ∃ nc, RepL w.heap (ds.take (min dl ds.length)) [] nc ∧ nc.length = min dl ds.length * sz ∧
   (min dl ds.length = 0 → (Builtin.copy_ #[t, u] ty #[dst, src]).run P w = .ok (.int .i64 (min dl ds.length : Nat)) w) ∧
   (0 < min dl ds.length → ∀ b off c e', ao = some ⟨b, off, none⟩ → w.heap[b]? = some (.cells c e' (0, 0)) → off + min dl ds.length * sz ≤ c.size →
    (Builtin.copy_ #[t, u] ty #[dst, src]).run P w = .ok (.int .i64 (min dl ds.length : Nat)) (w.setRow b (c.toList.take off ++ nc ++ c.toList.drop (off + min dl ds.length * sz)).toArray)) := by
 obtain ⟨j, hj, hjs⟩ : ∃ j, P.info? e = some j ∧ j.size = sz := by
  unfold szOf at hz
  cases hj : P.info? e with
  | none => rw [hj] at hz; simp at hz
  | some j => rw [hj] at hz; simp at hz; exact ⟨j, rfl, hz⟩
 subst hdst
 simp only [Rep] at hsrc
 rcases hsrc with ⟨p, q1, rfl, rfl, _⟩ | ⟨b0, o0, cap0, c0, e0, fr0, F', q1, rfl, q3, q4, q5, q6, q7, q8, q9⟩
 ·simp only [List.cons.injEq, and_true] at q1
  subst q1
  refine ⟨[], by simp [RepL], by simp, fun _ => ?_, fun h => by simp at h⟩
  cases p with
  | none => cases ao <;> simp [Builtin.copy_, run_underlying ht, Builtin.lenOf, Builtin.firstCells, sizeOf, typeInfo, hj, storeCells, goInt]
  | some p => cases ao <;> simp [Builtin.copy_, run_underlying ht, Builtin.lenOf, Builtin.firstCells, sizeOf, typeInfo, hj, storeCells, goInt, loadCells, loadCellsFrom]
 ·simp only [List.cons.injEq, and_true] at q1
  subst q1
  generalize hn : min dl ds.length = n
  have hnl : n ≤ ds.length := by omega
  have hsp : ds = ds.take n ++ ds.drop n := (List.take_append_drop _ _).symm
  have q9' := q9
  rw [hsp] at q9'
  obtain ⟨F1, F2, nc, c2, h1, h2, s1, s2⟩ := q9'.split
  have hF1 : F1 = [] := by
   have hnp' : noPtrs (ds.take n) = true := by
    have key : ∀ (l : List D) (m : Nat), noPtrs l = true → noPtrs (l.take m) = true := by
     intro l
     induction l with
     | nil => intro m _; simp [noPtrs]
     | cons x l ih =>
      intro m hm
      simp only [noPtrs, Bool.and_eq_true] at hm
      cases m with
      | zero => simp [noPtrs]
      | succ m => simp [noPtrs, hm.1, ih m hm.2]
    exact key _ _ hnp
   exact noPtrs_F hnp' s1
  subst hF1
  have lnc : nc.length = n * sz := by
   rw [s1.length, D.sizeL_const (sz := sz) fun d hd => q8 d (List.mem_of_mem_take hd), List.length_take, Nat.min_eq_left hnl]
  refine ⟨nc, s1, lnc, ?_⟩
  have hf : (Builtin.firstCells j.size n (.slice (some ⟨b0, o0, none⟩) ds.length cap0)).run P w = .ok nc.toArray w := by
   refine run_firstCells_some (P := P) w j.size n ⟨b0, o0, none⟩ ds.length cap0 nc (by rw [hjs]; exact lnc) ?_
   intro i v hv
   have hlt : i < nc.length := (List.getElem?_eq_some_iff.1 hv).1
   have h3 : ((c0.toList.drop o0).take (ds.length * sz))[i]? = some v := by rw [← hsp] at h2; rw [h2, List.getElem?_append_left hlt]; exact hv
   have hle : n * sz ≤ ds.length * sz := Nat.mul_le_mul_right _ hnl
   rw [List.getElem?_take_of_lt (by omega), List.getElem?_drop, Array.getElem?_toList] at h3
   rw [show (⟨b0, o0, none⟩ : Addr).add i = ⟨b0, o0 + i, none⟩ by simp [Addr.add], cell_at q6]
   exact h3
  have hmin : Nat.min ds.length dl = n := by rw [← hn]; exact Nat.min_comm _ _
  have base : ∀ (w' : World), (storeCells (ao.getD default) nc).run P w = .ok () w' → (ao = none → w' = w) → (Builtin.copy_ #[t, u] ty #[.slice ao dl dc, .slice (some ⟨b0, o0, none⟩) ds.length cap0]).run P w = .ok (.int .i64 n) w' := by
   intro w' hst hnone
   cases ao with
   | none =>
    obtain rfl := hnone rfl
    simp [Builtin.copy_, run_underlying ht, Builtin.lenOf, hmin, sizeOf, typeInfo, hj, hf, goInt]
   | some a0 =>
    simp only [Option.getD_some] at hst
    simp [Builtin.copy_, run_underlying ht, Builtin.lenOf, hmin, sizeOf, typeInfo, hj, hf, hst, goInt]
  refine ⟨fun h0 => base w ?_ (fun _ => rfl), fun _ => ?_⟩
  ·have : nc = [] := by
    have : nc.length = 0 := by rw [lnc, h0]; simp
    exact List.length_eq_zero_iff.1 this
   subst this
   simp [storeCells]
  ·intro b off c e' hao hb hle
   refine base _ ?_ (by rw [hao]; simp)
   subst hao
   have := run_storeCells_at P b off e' nc 0 c w hb (by omega) s1.one
   simpa [lnc] using this

theorem USat.again {h : Heap} {us : List (Nat × U)} (hu : USat h n0 S0 M0 us g) {k : Nat} {nn : Option Bool} {usz : Nat} {es : List D} (hm : (k, U.ar true nn usz es) ∈ us) :
  ∃ g', USat h n0 S0 M0 ((k, .ar true nn usz es) :: killU k (AV.soft k) us) g' ∧ ∀ av v, av.soft k = false → VRep h us g av v → VRep h ((k, .ar true nn usz es) :: killU k (AV.soft k) us) g' av v := by
 have ho := hu.each _ hm
 obtain ⟨m1, m2⟩ := hu.mut (h' := h) hm (Nat.le_refl _) (fun _ _ _ => rfl) (.inr ⟨true, nn, usz, es, true, es, rfl, rfl, rfl⟩) (phi_nodup hu hm) (fun x hx => ⟨hx, hu.fz x (mem_fp.2 ⟨_, hm, hx⟩)⟩)
  (by simp only [UOk, Gh.fp1, if_true] at ho ⊢; exact ho)
 exact ⟨_, m1, m2⟩

theorem seg_splice {c nc : List Value} {off' L p m : Nat} (h1 : off' + L ≤ c.length) (h2 : p + m ≤ L) (hn : nc.length = m) :
  ((c.take (off' + p) ++ nc ++ c.drop (off' + p + m)).drop off').take L = ((c.drop off').take L).take p ++ (nc ++ ((c.drop off').take L).drop (p + m)) := by
 apply List.ext_getElem?
 intro i
 simp only [List.getElem?_take, List.getElem?_drop, List.getElem?_append, List.length_take, List.length_append, List.length_drop, hn]
 have z1 : min (off' + p) c.length = off' + p := by omega
 have z2 : min p (min L (c.length - off')) = p := by omega
 rw [z1, z2]
 by_cases g1 : i < L
 ·rw [if_pos g1]
  by_cases g2 : i < p
  ·rw [if_pos (by omega), if_pos (by omega), if_pos (by omega), if_pos g2, if_pos g2, if_pos g1]
  ·by_cases g3 : i < p + m
   ·rw [if_pos (by omega), if_neg (by omega), if_neg g2, if_pos (by omega)]
    congr 1; omega
   ·rw [if_neg (by omega), if_neg g2, if_neg (by omega), if_pos (by omega)]
    congr 1; omega
 ·rw [if_neg g1, if_neg (by omega), if_neg (by omega), if_neg (by omega)]

theorem s_cpy (h : At n0 S0 M0 w0 st o a w g) {c : Call} {t e : TypeId} {sz : Nat} {x y : Operand} {X Y : Ax.X} {f : St → Prop} (ho : o.op = .call c) (hc : c.callee = .builtin .copy) (ha : c.args = #[x, y]) (hta : c.argTypes = #[t, t])
  (ht : P.underlying t = some (.slice e)) (hz : szOf P e = some sz) (hX : resX P t x = some X) (hY : resX P t y = some Y) (hq : cpyK (st.ev X) (st.ev Y) o.dst sz st f) : o.wp P a w (EPost n0 S0 M0 w0 st.n f) Q' := by
 have ex := h.ev_ hX
 have ey := h.ev_ hY
 have hs := h.sat
 unfold cpyK cpyS at hq
 split at hq
 ·next nn sz' ds hys =>
  obtain ⟨⟨rfl, hz0, hnp⟩, hq⟩ := hq
  obtain ⟨F, y1, y2, _⟩ := arg_rep h.us ey hys
  rw [cells_one y2] at y1
  have y1 : Rep w.heap (.ls nn sz' ds) F [a.eval y] := y1

  have fin : ∀ {id n : Nat} {u : U} {w' : World}, (Builtin.copy_ #[t, t] o.type #[a.eval x, a.eval y]).run P w = .ok (.int .i64 (n : Nat)) w' → w'.os = w.os → w'.tape = w.tape → w'.output = w.output → w.heap.size ≤ w'.heap.size → (∀ b, b < n0 → ¬ M0 b → w'.heap[b]? = w.heap[b]?) →
    (∃ g', USat w'.heap n0 S0 M0 ((id, u) :: killU id (AV.soft id) st.us) g' ∧ ∀ av v, av.soft id = false → VRep w.heap st.us g av v → VRep w'.heap ((id, u) :: killU id (AV.soft id) st.us) g' av v) →
    f ((st.upd id u).setO o.dst (.im none (.sc (.int .i64 n)))) → o.wp P a w (EPost n0 S0 M0 w0 st.n f) Q' := by
   rintro id n u w' hrun e1 e2 e3 hsz hold ⟨g', hU, hV⟩ hf
   unfold Oper.wp
   have hrun' : (execOp a.eval o).run P w = .ok (.value (.int .i64 (n : Nat))) w' := by
    simp [execOp, ho, resolve, hc, ha, hta, invoke, builtin, hrun, Result.andThen]
   rw [hrun']
   have hS : Sat n0 S0 M0 w0 (st.upd id u) a w' := by
    refine ⟨hs.ms, hs.dfr, hs.tm, hs.base, e1.trans hs.os, e2.trans hs.tape, e3.trans hs.output, Nat.le_trans hs.size hsz, ?_, g', hU, fun t => killE_rep (fun av v hf hr => hV av v hf hr) (h.rep t)⟩
    intro b hb hm
    rw [hold b hb hm]
    exact hs.old b hb hm
   refine ⟨(st.upd id u).setO o.dst (.im none (.sc (.int .i64 n))), ?_, hf, ?_⟩
   ·cases o.dst <;> rfl
   ·exact sat_set hS hU (fun t => killE_rep (fun av v hf hr => hV av v hf hr) (h.rep t)) (d := o.dst) (fun j hj => h.dst j hj) (sc_rep rfl)
  have hw0 : ∀ {b : Nat} {r : Array Value}, (w.setRow b r).os = w.os ∧ (w.setRow b r).tape = w.tape ∧ (w.setRow b r).output = w.output := ⟨rfl, rfl, rfl⟩
  have takelen : ∀ n : Nat, n ≤ ds.length → (ds.take n).length = n := fun n hn => by simp; omega

  have inn : ∀ {id el j off : Nat} {ln : Option Nat} {nn1 nn' : Option Bool} {usz : Nat} {es ds' : List D} {b : Nat} {c1 : Array Value} {ty : TypeId} {p : Option Addr} {len' cap' : Nat}, (id, U.ar true nn1 usz es) ∈ st.us → g.β id = some b → el < es.length → j + 1 ≤ usz →
    (j = 0 ∧ usz = 1 ∧ (D.at es el).isAg = false ∨ (D.at es el).isAg = true ∧ usz ≠ 1) → D.sub (D.at es el) j 1 false = .ls nn' sz' ds' → w.heap[b]? = some (.cells c1 ty (0, 0)) → c1[el * usz + j]? = some (.slice p len' cap') →
    off + ln.getD ds'.length ≤ ds'.length → off ≤ cap' → a.eval x = .slice (p.map fun q => q.add (if off = cap' then 0 else off * sz')) (ln.getD ds'.length) (cap' - off) →
    f ((st.upd id (.ar true nn1 usz (inSet es usz el j (.ls nn' sz' (Ax.spl ds' off (min (ln.getD ds'.length) ds.length) ds))))).setO o.dst (.im none (.sc (.int .i64 (min (ln.getD ds'.length) ds.length : Nat))))) → o.wp P a w (EPost n0 S0 M0 w0 st.n f) Q' := by
   intro id el j off ln nn1 nn' usz es ds' b c1 ty p len' cap' hm hb hel hj hw hd hcc hcv hol hoc hv hf
   obtain ⟨nc, n1, n2, hr0, hr1⟩ := copy_run (P := P) (w := w) (u := t) (ty := o.type) ht hz hv y1 hnp
   generalize hn : min (ln.getD ds'.length) ds.length = n at *
   have hnd : n ≤ ds.length := by omega
   have hn3 : off + n ≤ ds'.length := by omega
   have hlspl : (Ax.spl ds' off n ds).length = ds'.length := by simp [Ax.spl]; omega
   by_cases h0 : n = 0
   ·have hsame : inSet es usz el j (.ls nn' sz' (Ax.spl ds' off n ds)) = es := by
     have e1 : Ax.spl ds' off n ds = ds' := by subst h0; simp [Ax.spl]
     rw [e1]
     have hU := h.us.each _ hm
     simp only [UOk] at hU
     obtain ⟨hmax, hse, hU⟩ := hU
     rcases hU with ⟨z1, _⟩ | ⟨b1, c2, e2, G, cs, rest, k1, k2, k3, k4, k5, k6, k7, k8⟩
     ·rw [hb] at z1; cases z1
     obtain ⟨_, _, _, _, _, _, _, _, _, r2, _⟩ := k6.pick hel
     have hsz : (es[el]).size = usz := hse _ (List.getElem_mem hel)
     have := put_same (usz := usz) hj hd rfl hw (by rw [D.at_eq hel]; exact ag_len r2 hsz)
     unfold inSet
     rw [this, D.at_eq hel, List.set_getElem_self]
    rw [hsame] at hf
    exact fin (hr0 h0) rfl rfl rfl (Nat.le_refl _) (fun _ _ _ => rfl) (h.us.again hm) hf
   ·have hne : ds' ≠ [] := by intro e; rw [e] at hn3; simp at hn3; omega
    have hp : ∃ b' off', p = some ⟨b', off', none⟩ := by
     obtain ⟨F2, q1, _⟩ := in_cell h.us hm hel hj hb hcc hcv
     rw [hd] at q1
     simp only [Rep] at q1
     rcases q1 with ⟨_, _, q2, _⟩ | ⟨b', off', _, _, _, _, _, q1, _⟩
     ·exact absurd q2 hne
     ·simp only [List.cons.injEq, Value.slice.injEq, and_true] at q1
      exact ⟨b', off', q1.1⟩
    obtain ⟨b', off', rfl⟩ := hp
    obtain ⟨c', e', F1, rfl, i1, i2, i3, i4, imax, i5, i6, i8, i7⟩ := h.us.inner hm hb hel hj hw hd hcc hcv hne
    have hocl : off < cap' := by omega
    have hcond : ¬ off = cap' := by omega
    simp only [Option.map_some, hcond, if_false, Addr.add] at hv
    have hle : off * sz' + n * sz' ≤ ds'.length * sz' := by rw [← Nat.add_mul]; exact Nat.mul_le_mul_right _ (by omega)
    have hle2 : ds'.length * sz' ≤ cap' * sz' := Nat.mul_le_mul_right _ i4
    have hrun := hr1 (by omega) b' (off' + off * sz') c' e' (by simp [hcond, Addr.add]) i1 (by omega)
    obtain ⟨G2, s1, s2⟩ := i6.spl i5 n1 (off := off) (by rw [takelen n hnd]; omega) (by rw [takelen n hnd]; exact n2)
    rw [takelen n hnd] at s1
    have hc'l : c'.toList.length = c'.size := by simp
    generalize hc2 : (c'.toList.take (off' + off * sz') ++ nc ++ c'.toList.drop (off' + off * sz' + n * sz')).toArray = c2 at hrun
    have hsz2 : c2.size = c'.size := by
     rw [← hc2]
     simp only [List.size_toArray, List.length_append, List.length_take, List.length_drop, n2, hc'l]
     omega
    have hseg := seg_splice (c := c'.toList) (nc := nc) (off' := off') (L := ds'.length * sz') (p := off * sz') (m := n * sz') (by omega) hle n2
    obtain ⟨g2, hU2, hV2⟩ := i7 (w.setRow b' c2).heap c2 (Ax.spl ds' off n ds) G2 (setRow_size _ _ _) (setRow_heap w b' c' _ e' _ i1) (fun y hy => setRow_other w b' y _ hy) hsz2
     hlspl (fun d hd => by
      simp only [Ax.spl, List.mem_append] at hd
      rcases hd with hd | hd | hd
      ·exact i5 d (List.mem_of_mem_take hd)
      ·simp only [Rep] at y1
       rcases y1 with ⟨_, _, rfl, _⟩ | ⟨_, _, _, _, _, _, _, _, _, _, _, _, _, _, q8, _⟩
       ·simp at hd
       ·exact q8 d (List.mem_of_mem_take hd)
      ·exact i5 d (List.mem_of_mem_drop hd)) s2 (by rw [← hc2]; simp only []; rw [hseg]; exact s1)
    refine fin hrun rfl rfl rfl (by rw [setRow_size]; exact Nat.le_refl _) (fun y hy hmy => ?_) ⟨g2, hU2, hV2⟩ hf
    have : y ≠ b' := by
     rintro rfl
     exact hmy (h.us.low y (mem_fp.2 ⟨_, hm, i8⟩) hy)
    exact setRow_other w b' y _ this
  unfold cpyD at hq
  split at hq
  ·
   next id off len e1 =>
   rw [e1] at ex
   unfold cpyU at hq
   split at hq
   ·next nn1 usz es hun =>
    obtain ⟨⟨rfl, hol⟩, hf⟩ := hq
    have hm := mem_of_lu hun
    simp only [VRep] at ex
    obtain ⟨ow', nn', sz2, es', x1, x2, x3⟩ := ex
    have := h.us.uniq hm x1
    injection this with z1 z2 z3 z4
    subst z1 z2 z3 z4
    have hU := h.us.each _ hm
    simp only [UOk] at hU
    obtain ⟨hmax, hse, hU⟩ := hU
    obtain ⟨ao, dc, hv⟩ : ∃ ao dc, a.eval x = .slice ao len dc := by
     rcases x3 with ⟨b, _, hv⟩ | ⟨_, _, rfl, hv⟩
     ·exact ⟨_, _, hv⟩
     ·exact ⟨_, _, hv⟩
    obtain ⟨nc, n1, n2, hr0, hr1⟩ := copy_run (P := P) (w := w) (u := t) (ty := o.type) ht hz hv y1 hnp
    generalize hn : min len ds.length = n at *
    have hnd : n ≤ ds.length := by omega
    by_cases h0 : n = 0
    ·have hsame : Ax.spl es off n ds = es := by rw [h0]; simp [Ax.spl]
     rw [hsame] at hf
     exact fin (hr0 h0) rfl rfl rfl (Nat.le_refl _) (fun _ _ _ => rfl) (h.us.again hm) hf
    ·rcases hU with ⟨z1, rfl, _⟩ | ⟨b, c1, ee, G, cs, rest, k1, k2, k3, k4, k5, k6, k7, k8⟩
     ·simp at hol; omega
     obtain ⟨b', x3, hv'⟩ | ⟨x3, _⟩ := x3
     case inr => rw [k1] at x3; cases x3
     rw [k1] at x3
     obtain rfl := Option.some.inj x3
     rw [hv] at hv'
     simp only [Value.slice.injEq, true_and] at hv'
     obtain ⟨rfl, rfl⟩ := hv'
     simp only [if_true] at k8
     have hle : off * usz + n * usz ≤ es.length * usz := by rw [← Nat.add_mul]; exact Nat.mul_le_mul_right _ (by omega)
     have hle2 : es.length * usz ≤ g.cap id * usz := Nat.mul_le_mul_right _ k5
     have hrun := hr1 (by omega) b (off * usz) c1 ee rfl k2 (by omega)
     obtain ⟨G2, s1, s2⟩ := k6.spl hse n1 (off := off) (by rw [takelen n hnd]; omega) (by rw [takelen n hnd]; exact n2)
     rw [takelen n hnd] at s1
     have hcl := k6.length
     rw [D.sizeL_const hse] at hcl
     have hc1l : c1.toList.length = c1.size := by simp
     generalize hc2 : (c1.toList.take (off * usz) ++ nc ++ c1.toList.drop (off * usz + n * usz)).toArray = c2 at hrun
     have hsz2 : c2.size = g.cap id * usz := by
      rw [← hc2]
      simp only [List.size_toArray, List.length_append, List.length_take, List.length_drop, n2, hc1l]
      omega
     have hcs2 : c2.toList = (cs.take (off * usz) ++ (nc ++ cs.drop (off * usz + n * usz))) ++ rest := by
      rw [← hc2, k3, List.take_append_of_le_length (by omega), List.drop_append_of_le_length (by omega)]
      simp
     have hndφ := phi_nodup h.us hm
     rw [k8] at hndφ
     have hin : ∀ y ∈ b :: G2, y ∈ g.φ id := by
      intro y hy
      rw [k8]
      rcases List.mem_cons.1 hy with rfl | hy
      ·simp
      ·simp [s2.subset hy]
     have hfp : ∀ y ∈ g.φ id, y ∈ fp g st.us := fun y hy => mem_fp.2 ⟨_, hm, hy⟩
     have hbφ : b ∈ g.φ id := by rw [k8]; simp
     obtain ⟨φ, hφ, hU2, hK⟩ := h.us.upd (h' := (w.setRow b c2).heap) hm k1 (setRow_heap w b c1 _ ee _ k2) (setRow_size _ _ _) (fun y hy => setRow_other w b y _ hy) hsz2 (ow' := true) (es' := Ax.spl es off n ds) (by simp [Ax.spl]; omega)
      (fun d hd => by
       simp only [Ax.spl, List.mem_append] at hd
       rcases hd with hd | hd | hd
       ·exact hse d (List.mem_of_mem_take hd)
       ·simp only [Rep] at y1
        rcases y1 with ⟨_, _, rfl, _⟩ | ⟨_, _, _, _, _, _, _, _, _, _, _, _, _, _, q8, _⟩
        ·simp at hd
        ·exact q8 d (List.mem_of_mem_take hd)
       ·exact hse d (List.mem_of_mem_drop hd)) hcs2 s1
      (fun _ => ⟨List.Sublist.nodup (List.Sublist.cons_cons _ s2) hndφ, fun y hy => by
       have h1 := hfp y (hin y (by simp [hy]))
       exact ⟨h.us.low y h1, fun hsx => (h.us.sh y hsx).2.2 h1, fun z hz hne hyz => hne (fp_apart h.us.keys h.us.nodup hz hm hyz (hin y (by simp [hy])))⟩⟩) (by simp) (fun _ y hy => h.us.fz y (hfp y (hin y (by simp [hy]))))
     refine fin hrun rfl rfl rfl (by rw [setRow_size]; exact Nat.le_refl _) (fun y hy hmy => ?_) ⟨_, hU2, fun av v hf hr => VRep.keepS hK hf hr⟩ hf
     have : y ≠ b := by
      rintro rfl
      exact hmy (h.us.low y (hfp y hbφ) hy)
     exact setRow_other w b y _ this
   ·exact hq.elim
  ·next id el j e1 =>
   rw [e1] at ex
   unfold cpyI at hq
   split at hq
   ·next nn1 usz es hun =>
    unfold cpyJ at hq
    split at hq
    ·next nn' sz2 ds' hd =>
     obtain ⟨⟨rfl, hel, hw⟩, hf⟩ := hq
     have hm := mem_of_lu hun
     have hr0 := cw_im h.us ex hun
     rw [hd] at hr0
     obtain ⟨p, len, cap, hv, hlen, hp1, _⟩ := ls_val hr0
     simp only [VRep] at ex
     obtain ⟨nn0, usz0, es0, b, c1, ty, r1, r2, r3, r4, r5, r6, r7, r8, r9⟩ := ex
     have := h.us.uniq r1 hm
     injection this with z1 z2 z3 z4
     subst z2 z3 z4
     refine inn (off := 0) (ln := none) (p := p) (len' := len) (cap' := cap) hm r4 r2 r3 hw hd r5 ?_ (by simp) (Nat.zero_le _) ?_ hf
     ·rw [hv] at r8
      have h1 : ((c1.toList.drop (el * usz0 + j)).take 1)[0]? = some (.slice p len cap) := by rw [← r8]; simp [Value.cells]
      rw [List.getElem?_take_of_lt (by omega), List.getElem?_drop, Nat.add_zero, Array.getElem?_toList] at h1
      exact h1
     ·rw [hv, hlen]
      cases p <;> simp [Addr.add]
    ·exact hq.elim
   ·exact hq.elim
  ·next id el j isz off len e1 =>
   obtain ⟨rfl, hq⟩ := hq
   rw [e1] at ex
   unfold cpyI at hq
   split at hq
   ·next nn1 usz es hun =>
    unfold cpyJ at hq
    split at hq
    ·next nn' sz2 ds' hd =>
     obtain ⟨⟨rfl, hel, hw⟩, hf⟩ := hq
     have hm := mem_of_lu hun
     simp only [VRep] at ex
     obtain ⟨ow0, nn0, usz0, es0, b, c1, ty, p, len', cap', r1, r2, r3, r4, r5, r6, r7, r8, r9⟩ := ex
     have := h.us.uniq r1 hm
     injection this with z1 z2 z3 z4
     subst z1 z2 z3 z4
     obtain ⟨F2, q1, _⟩ := in_cell h.us hm r2 r3 r4 r5 r6
     rw [hd] at q1
     obtain ⟨hl1, _, _⟩ := q1.part r7
     refine inn (off := off) (ln := some len) (p := p) (len' := len') (cap' := cap') hm r4 r2 r3 hw hd r5 r6 (by simp; omega) r8 ?_ hf
     simpa using r9
    ·exact hq.elim
   ·exact hq.elim
  ·exact hq.elim
 ·exact hq.elim

end Go.Ax
namespace Go.Ax
variable {P : Program} {n0 : Nat} {S0 M0 : Nat → Prop} {w0 : World}
variable {st : St} {o : Oper} {a : Act} {w : World} {k : KQ} {Q' : Exit → Act → World → Prop} {g : Gh}
theorem ag3_val {us : List (Nat × U)} {h : Heap} {av : AV} {v : Value} (hu : USat h n0 S0 M0 us g) (hr : VRep h us g av v) (ho : AV.aggV (lu us) av = true) : ∃ c, v = .agg c := by
 cases av with
 | im t d =>
  cases t with
  | some t => simp [AV.aggV] at ho
  | none =>
   simp only [AV.aggV] at ho
   simp only [VRep] at hr
   obtain ⟨F, r1, r2, r3⟩ := hr
   cases d <;> simp_all [D.fits, D.isAg]
 | tr i =>
  simp only [AV.aggV] at ho
  split at ho
  ·next d hun =>
   have hm := mem_of_lu hun
   simp only [VRep] at hr
   obtain ⟨_, rfl⟩ := hr
   have hU := hu.each _ hm
   simp only [UOk] at hU
   obtain ⟨_, _, p3⟩ := hU
   cases d <;> simp_all [D.fits, D.isAg]
  ·cases ho
 | cw i el j sz agg =>
  simp only [AV.aggV] at ho
  subst ho
  simp only [VRep] at hr
  obtain ⟨_, _, _, _, _, _, _, _, _, _, _, _, _, _, q9⟩ := hr
  exact ⟨_, by simpa using q9⟩
 | sg vs =>
  simp only [VRep] at hr
  obtain ⟨xs, _, rfl⟩ := hr
  exact ⟨_, rfl⟩
 | _ => simp [AV.aggV] at ho
theorem call_postP (h : At n0 S0 M0 w0 st o a w g) {f : Nat} {avs : List AV} {vs : List Value} (hrun : Callable P f → (execOp a.eval o).run P w = .ok (.enter f vs.toArray) w) (hr : VRepL w.heap st.us g avs vs)
  (hq : callP P o.dst f avs st.unit k) : o.wp P a w (QPost n0 S0 M0 w0 st o.dst k) Q' := by
 obtain ⟨hdlow, t0, kk, B, C, rfl, ⟨hcl, hA⟩, hB1, hC1, hk⟩ := hq
 simp only [VRepL] at hr
 obtain ⟨v1, r1, rfl, hv1, v2, r2, rfl, hv2, v3, r3, rfl, hv3, rfl⟩ := hr
 simp only [Bool.and_eq_true] at hB1 hC1
 obtain ⟨c2, rfl⟩ := ag3_val h.us hv2 hB1.1
 obtain ⟨c3, rfl⟩ := ag3_val h.us hv3 hC1.1
 have z2 := item_ok h.us hv2 hB1.2 (by omega)
 have z3 := item_ok h.us hv3 hC1.2 (by omega)
 have e1 : v1 = .int .i64 kk := by
  simp only [VRep, Rep, D.fits] at hv1
  obtain ⟨F, ⟨_, q1, _⟩, q2, _⟩ := hv1
  rw [cells_one q2] at q1
  simpa using q1
 subst e1
 unfold Oper.wp
 rw [hrun hcl, Oper.upon_enter]
 refine (hA kk c2 c3 w (by simpa [Value.cells] using z2) (by simpa [Value.cells] using z3)).mono ?_
 rintro e w' ⟨⟨x, t, rfl, hx, hx2⟩, hB⟩
 have hs := h.sat
 have hh : ∀ b, b < w.heap.size → w'.heap[b]? = w.heap[b]? := fun b hb => hB.block b hb
 refine ⟨_, _, hk, fun hf => ?_⟩
 generalize hd : o.dst.getD 0 = d at hf hdlow
 have hno : noU d st.us = true := by
  rcases hf with hf | hf
  ·cases hf
  ·simp only [St.fresh, noU, Bool.and_true] at hf; exact hf
 have hno' := noU_spec hno
 have hxlt : x < w'.heap.size := (Array.getElem?_eq_some_iff.1 hx2).1
 obtain ⟨hU, hV⟩ := h.us.addU (h' := w'.heap) (n := d) hno' (u := .bx 3 [B, C]) (β := some x) (φ := [x]) (root := undef) (cap := 0) hB.size
  (fun b hb => by
   refine hh b ?_
   rcases hb with hb | hb
   ·exact h.us.lt b hb
   ·exact (h.us.sh b hb).1)
  (by simp)
  (fun b hb => by
   simp only [List.mem_singleton] at hb
   subst hb
   refine ⟨hxlt, fun hlt => ?_, fun hS => ?_, fun hF => ?_, _, _, hx2⟩
   ·have := hs.base; have := hs.size; omega
   ·have := (h.us.sh _ hS).1; omega
   ·have := h.us.lt _ hF; omega)
  (fun hg => by
   simp only [UOk, add_self]
   refine ⟨by simp [maxEl], x, c2 ++ c3, t, [.agg c2, .agg c3], [], rfl, hx2, rfl, ?_, ?_, by simp [Value.cells]⟩
   ·simp only [VRepL]
    exact ⟨_, _, rfl, hg _ _ hv2, _, _, rfl, hg _ _ hv3, rfl⟩
   ·intro _ v hv
    simp only [List.mem_cons, List.not_mem_nil, or_false] at hv
    rcases hv with rfl | rfl
    ·exact z2
    ·exact z3) (fun _ => PinAt.low hdlow)
 have hS2 : Sat n0 S0 M0 w0 (st.addUs [(d, U.bx 3 [B, C])]) a w' := by
  refine ⟨hs.ms, hs.dfr, hs.tm, hs.base, hB.os.trans hs.os, hB.tape.trans hs.tape, hB.output.trans hs.output, Nat.le_trans hs.size hB.size, ?_, _, hU, fun t => hV _ _ (h.rep t)⟩
  intro b hb hm
  rw [← hs.old b hb hm]
  exact hh b (by have := hs.base; have := hs.size; omega)
 refine sat_set hS2 hU (fun t => hV _ _ (h.rep t)) h.dst ?_
 simp only [VRep, VRepL]
 refine ⟨[.int .i64 kk, .int .i64 0, .slice (some ⟨x, 0, none⟩) 2 2], ⟨_, _, rfl, ⟨[], ?_, ?_, by simp⟩, _, _, rfl, ⟨[], ?_, ?_, by simp⟩, _, _, rfl, ⟨3, [B, C], x, List.mem_cons_self, rfl, by simp [add_self], rfl⟩, rfl⟩, by simp [Value.cells]⟩
 all_goals simp [Rep, D.fits, Value.cells, Value.oneCell']
theorem call_post (h : At n0 S0 M0 w0 st o a w g) {f : Nat} {avs : List AV} {vs : List Value} (hrun : Callable P f → (execOp a.eval o).run P w = .ok (.enter f vs.toArray) w) (hr : VRepL w.heap st.us g avs vs)
  (hq : callQ P o.dst f avs st.unit k) : o.wp P a w (QPost n0 S0 M0 w0 st o.dst k) Q' :=
 hq.elim (call_post0 h hrun hr) fun hq => hq.elim (call_postT h hrun hr) (call_postP h hrun hr)

theorem s_call (h : At n0 S0 M0 w0 st o a w g) {f : Nat} {c : Call} {Xs : List X} (ho : o.op = .call c) (hc : c.callee = .value (.func f)) (hl : c.args.size = c.argTypes.size)
  (hx : (c.args.toList.zip c.argTypes.toList).mapM (fun p => resX P p.2 p.1) = some Xs) (hq : callQ P o.dst f (Xs.map st.ev) st.unit k) : o.wp P a w (QPost n0 S0 M0 w0 st o.dst k) Q' := by
 refine call_post h (vs := c.args.toList.map a.eval) ?_ (evRepL h.rep (by simpa using hl) hx) hq
 rintro ⟨fn, h1, h2, h3⟩
 have h2' : ¬ fn.body = none := by cases hb : fn.body <;> simp_all
 have h3' : ¬ fn.name = "runtime.NumGoroutine" := by simpa using h3
 have ea : (List.map a.eval c.args.toList).toArray = Array.map a.eval c.args := by apply Array.ext'; simp
 rw [ea]
 simp [execOp, ho, resolve, hc, Act.eval, Deferred.ofValue, invoke, callFunc, h1, h2', h3']

theorem s_calv (h : At n0 S0 M0 w0 st o a w g) {u : TypeId} {c : Call} {x : Operand} {X : Ax.X} {Xs : List Ax.X} (ho : o.op = .call c) (hc : c.callee = .value x) (hX : resX P u x = some X) (hl : c.args.size = c.argTypes.size)
  (hx : (c.args.toList.zip c.argTypes.toList).mapM (fun p => resX P p.2 p.1) = some Xs) (hq : calvK (st.ev X) P o.dst (Xs.map st.ev) st.unit k) : o.wp P a w (QPost n0 S0 M0 w0 st o.dst k) Q' := by
 have ex := h.ev_ hX
 unfold calvK at hq
 split at hq
 ·next t f e1 =>
  rw [e1] at ex
  have hv := sc_val ex
  refine call_post h (vs := c.args.toList.map a.eval) ?_ (evRepL h.rep (by simpa using hl) hx) hq
  rintro ⟨fn, h1, h2, h3⟩
  have h2' : ¬ fn.body = none := by cases hb : fn.body <;> simp_all
  have h3' : ¬ fn.name = "runtime.NumGoroutine" := by simpa using h3
  have ea : (List.map a.eval c.args.toList).toArray = Array.map a.eval c.args := by apply Array.ext'; simp
  rw [ea]
  simp [execOp, ho, resolve, hc, hv, Deferred.ofValue, invoke, callFunc, h1, h2', h3']
 ·next t f ds e1 =>
  rw [e1] at ex
  simp only [VRep, Rep, D.fits] at ex
  obtain ⟨F, ⟨vs, q1, q2⟩, hf, hok⟩ := ex
  rw [cells_one hf] at q1
  have hv : a.eval x = .func (.func f) #[] ⟨vs⟩ := by simpa using q1
  refine call_post h (vs := c.args.toList.map a.eval ++ vs) ?_ (VRepL_app9 (evRepL h.rep (by simpa using hl) hx) (repV_ims q2 hok)) hq
  rintro ⟨fn, h1, h2, h3⟩
  have h2' : ¬ fn.body = none := by cases hb : fn.body <;> simp_all
  have h3' : ¬ fn.name = "runtime.NumGoroutine" := by simpa using h3
  have ea : (List.map a.eval c.args.toList ++ vs).toArray = Array.map a.eval c.args ++ ⟨vs⟩ := by apply Array.ext'; simp
  rw [ea]
  simp [execOp, ho, resolve, hc, hv, Deferred.ofValue, invoke, callFunc, h1, h2', h3']
 ·next f avs e1 =>
  rw [e1] at ex
  simp only [VRep] at ex
  obtain ⟨vs, q2, hv⟩ := ex
  refine call_post h (vs := c.args.toList.map a.eval ++ vs) ?_ (VRepL_app9 (evRepL h.rep (by simpa using hl) hx) q2) hq
  rintro ⟨fn, h1, h2, h3⟩
  have h2' : ¬ fn.body = none := by cases hb : fn.body <;> simp_all
  have h3' : ¬ fn.name = "runtime.NumGoroutine" := by simpa using h3
  have ea : (List.map a.eval c.args.toList ++ vs).toArray = Array.map a.eval c.args ++ ⟨vs⟩ := by apply Array.ext'; simp
  rw [ea]
  simp [execOp, ho, resolve, hc, hv, Deferred.ofValue, invoke, callFunc, h1, h2', h3']
 ·exact hq.elim

end Go.Ax
