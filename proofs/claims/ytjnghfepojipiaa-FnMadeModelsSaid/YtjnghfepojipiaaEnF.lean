/- THE ENGINE, PART 6: a generator of conditions over the register code, and its soundness. No condition. -/
import Derived.Test.YtjnghfepojipiaaEnE
import Derived.Laws.BytesString
set_option linter.unusedSimpArgs false
set_option linter.unusedVariables false
set_option linter.unnecessarySimpa false
namespace Go.Ax

variable {P : Program} {n0 : Nat} {S0 M0 : Nat → Prop} {w0 : World}
variable {st : St} {o : Oper} {a : Act} {w : World} {k : KQ} {Q' : Exit → Act → World → Prop} {g : Gh}

mutual
theorem soft_refs {k : Nat} : ∀ {av : AV}, av.refs k = false → av.soft k = false
 | .im _ _, h => by simpa [AV.refs, AV.soft] using h
 | .cw _ _ _ _ _, h => by simpa [AV.refs, AV.soft] using h
 | .sg _, h => by simp only [AV.refs] at h; simp only [AV.soft]; exact softL_refs h
 | .tup _, h => by simp only [AV.refs] at h; simp only [AV.soft]; exact softL_refs h
 | .cl _ _, h => by simp only [AV.refs] at h; simp only [AV.soft]; exact softL_refs h
 | .pq _ _ _ _ _ _, h => by simpa [AV.refs, AV.soft] using h
 | .qs _ _ _ _ _ _, h => by simpa [AV.refs, AV.soft] using h
 | .tr _, _ => by simp [AV.soft]
 | .pw _ _ _, _ => by simp [AV.soft]
 | .sm _ _ _, _ => by simp [AV.soft]
 | .vb _ _, _ => by simp [AV.soft]
 | .any, _ => by simp [AV.soft]
 | .ss _ _ _, _ => by simp [AV.soft]
 | .z0 _ _, _ => by simp [AV.soft]
 | .pb _ _, _ => by simp [AV.soft]
 | .ps _, _ => by simp [AV.soft]
theorem softL_refs {k : Nat} : ∀ {vs : List AV}, AV.refsL k vs = false → AV.softL k vs = false
 | [], _ => by simp [AV.softL]
 | v :: vs, h => by
  simp only [AV.refsL, Bool.or_eq_false_iff] at h
  simp only [AV.softL, soft_refs h.1, softL_refs h.2, Bool.or_self]
end

theorem piece_one {h : Heap} {us : List (Nat × U)} {x : AV} {v : Value} (hr : VRep h us g x v) (ho : pieceOk x = true) : ∀ c ∈ v.cells.toList, c.oneCell' = true := by
 have dflt : x.one0 = true → ∀ c ∈ v.cells.toList, c.oneCell' = true := by
  intro h1 c hc
  have := one0_val hr h1
  rw [cells_one this] at hc
  simp at hc
  subst hc
  exact this
 cases x with
 | sg vs =>
  simp only [pieceOk] at ho
  simp only [VRep] at hr
  obtain ⟨xs, h1, rfl⟩ := hr
  have hfl := one0s_cells h1 ho
  intro c hc
  rw [hfl] at hc
  simp only [Value.cells, List.toList_toArray] at hc
  have key : ∀ {vs : List AV} {xs : List Value}, VRepL h us g vs xs → vs.all AV.one0 = true → ∀ c ∈ xs, c.oneCell' = true := by
   intro vs
   induction vs with
   | nil => intro xs hr _ c hc; simp only [VRepL] at hr; subst hr; cases hc
   | cons v vs ih =>
    intro xs hr ho c hc
    simp only [VRepL] at hr
    obtain ⟨x, r, rfl, p1, p2⟩ := hr
    simp only [List.all_cons, bA] at ho
    rcases List.mem_cons.1 hc with rfl | hc
    ·exact one0_val p1 ho.1
    ·exact ih p2 ho.2 c hc
  exact key h1 ho c hc
 | _ => exact dflt (by simpa [pieceOk] using ho)

theorem USat.cell {h h' : Heap} {us : List (Nat × U)} (hu : USat h n0 S0 M0 us g) {id : Nat} {u : U} (hm : (id, u) ∈ us) {b : Nat} (hb : g.β id = some b) (hφ : g.φ id = [b]) {c : Array Value} {e : TypeId} (h0 : h'[b]? = some (.cells c e (0, 0)))
  (hsz : h'.size = h.size) (hh : ∀ x, x ≠ b → h'[x]? = h[x]?) {f : AV → Bool} {k1 k2 : List Nat} (hk : ∀ i, i ∈ k1 ∨ i ∈ k2 → i = id) (hk' : id ∈ k1 ∨ id ∈ k2) (hf : ∀ av, f av = false → (∀ k ∈ k1, av.soft k = false) ∧ (∀ k ∈ k2, av.refs k = false))
  {sz : Nat} {z : AV} {vz : Value} (hlike : id ∈ k1 → likeW u (.bx sz [z])) (hz : VRep h us g z vz) (hzr : z.refs id = false) (hzs : vz.cells.size = sz) {rest : List Value} (hc : c.toList = vz.cells.toList ++ rest) (hpin : PinAt n0 M0 id (g.β id) (g.cap id)) :
  USat h' n0 S0 M0 ((id, .bx sz [z]) :: killU id f us) g ∧ KeepW k1 k2 f h h' us ((id, .bx sz [z]) :: killU id f us) g g := by
 have hbfp : b ∈ fp g us := mem_fp.2 ⟨_, hm, by rw [hφ]; simp⟩
 have hoth : ∀ i v, (i, v) ∈ us → i ≠ id → ∀ x ∈ g.φ i, x ≠ b := by
  rintro i v h1 h2 x hx rfl
  exact h2 (fp_apart hu.keys hu.nodup h1 hm hx (by rw [hφ]; simp))
 have hSh : ∀ x, g.Sh x → x ≠ b := fun x hx e => (hu.sh x hx).2.2 (e ▸ hbfp)
 have K : KeepW k1 k2 f h h' us ((id, .bx sz [z]) :: killU id f us) g g := by
  refine ⟨hf, ?_, fun _ => ⟨rfl, rfl, rfl⟩, ?_, ?_, ?_⟩
  ·intro i v hi h1 h2
   have hne : i ≠ id := by
    rintro rfl
    exact hk'.elim h1 h2
   exact List.mem_cons_of_mem _ (mem_killU hi hne)
  ·intro i v x hi h1 h2 hx
   have hne : i ≠ id := by
    rintro rfl
    exact hk'.elim h1 h2
   exact hh x (hoth i v hi hne x ((hu.each _ hi).block_mem hx))
  ·intro t d F cs h1 h2 hr hok
   have hne : t ≠ some id := by
    rintro rfl
    exact hk'.elim (fun h => h1 id h rfl) (fun h => h2 id h rfl)
   have hx : ∀ x ∈ F, h'[x]? = h[x]? := by
    intro x hx
    refine hh x ?_
    rcases hok x hx with q | ⟨i, rfl, q, _⟩
    ·exact hSh x q
    ·obtain ⟨v, hv⟩ := hu.live q
     exact hoth i v hv (fun e => hne (by rw [e])) x q
   exact ⟨hr.frame hx, hok⟩
  ·intro i hi
   have := hk i (.inl hi)
   subst this
   exact ⟨u, _, fun v hv => hu.uniq hv hm, List.mem_cons_self, hlike hi⟩
 have hzn : VRep h' ((id, .bx sz [z]) :: killU id f us) g z vz := by
  refine VRep.keepW K ?_ ?_ hz
  ·intro k hk1
   have := hk k (.inl hk1)
   subst this
   exact soft_refs hzr
  ·intro k hk1
   have := hk k (.inr hk1)
   subst this
   exact hzr
 have mem : ∀ x ∈ ((id, U.bx sz [z]) :: killU id f us), ∃ v, (x.1, v) ∈ us := by
  intro x hx
  rcases List.mem_cons.1 hx with rfl | hx
  ·exact ⟨u, hm⟩
  ·obtain ⟨_, v, h2, _⟩ := of_mem_killU hx
   exact ⟨v, h2⟩
 have hfpm : ∀ x, x ∈ fp g ((id, U.bx sz [z]) :: killU id f us) → x ∈ fp g us := by
  intro x hx
  obtain ⟨y, hy, hxy⟩ := mem_fp.1 hx
  obtain ⟨v, hv⟩ := mem y hy
  exact mem_fp.2 ⟨_, hv, hxy⟩
 have hkeys : (((id, U.bx sz [z]) :: killU id f us).map (·.1)).Nodup := by
  simp only [lC, List.nodup_cons, keys_killU]
  exact ⟨by simp [List.mem_filter], hu.keys.filter _⟩
 refine ⟨⟨hkeys, nodup_flat hkeys ?_ ?_, ?_, fun x hx => hu.low x (hfpm x hx), ?_, ?_, ?_, ?_, hu.pin.keep (fun _ => ⟨rfl, rfl⟩) fun _ => hpin⟩, K⟩
 ·intro x hx
  obtain ⟨v, hv⟩ := mem x hx
  exact phi_nodup hu hv
 ·intro x hx y hy b' hbx hby
  obtain ⟨v, hv⟩ := mem x hx
  obtain ⟨v', hv'⟩ := mem y hy
  exact fp_apart (x := (x.1, v)) (y := (y.1, v')) hu.keys hu.nodup hv hv' hbx hby
 ·intro x hx
  rw [hsz]
  exact hu.lt x (hfpm x hx)
 ·intro i hi
  refine hu.dead i fun hmm => hi ?_
  simp only [lC, List.mem_cons, keys_killU, List.mem_filter]
  by_cases e : i = id
  ·exact .inl e
  ·exact .inr ⟨hmm, by simpa using e⟩
 ·intro x hx
  obtain ⟨q1, q2, q3⟩ := hu.sh x hx
  exact ⟨by rw [hsz]; exact q1, q2, fun hf => q3 (hfpm x hf)⟩
 ·intro x hx
  rcases List.mem_cons.1 hx with rfl | hx
  ·simp only [UOk]
   refine ⟨by simp [maxEl], b, c, e, [vz], rest, hb, h0, hφ, ?_, by simpa using fun _ => hzs, by simpa using hc⟩
   simp only [VRepL]
   exact ⟨_, _, rfl, hzn, rfl⟩
  ·obtain ⟨hne, v, h1, h2⟩ := of_mem_killU hx
   rw [h2]
   have n1 : x.1 ∉ k1 := fun h => hne (hk _ (.inl h))
   have n2 : x.1 ∉ k2 := fun h => hne (hk _ (.inr h))
   exact (hu.each _ h1).keepW K h1 n1 n2 rfl (fun y hy => hh y (hoth _ _ h1 hne y hy)) (fun y hy => ⟨hy, hh y (hSh y hy)⟩)
 ·intro x hx
  by_cases e' : x = b
  ·subst e'; exact ⟨c, e, h0⟩
  ·obtain ⟨c', ty, hc'⟩ := hu.fz x (hfpm x hx)
   exact ⟨c', ty, by rw [hh x e']; exact hc'⟩

theorem cvtE_rep {h h' : Heap} {us us' : List (Nat × U)} {g g' : Gh} {id : Nat} (H : ∀ av v, av.refs id = false → VRep h us g av v → VRep h' us' g' av v) (Hp : ∀ j v, VRep h us g (.pw id 0 j) v → VRep h' us' g' (.pb id j) v) {t : Nat} {v : Value} : ∀ {env : List (Nat × AV)},
  VRep h us g (lk env t) v → VRep h' us' g' (lk (cvtE id env) t) v
 | [], _ => by simp [cvtE, lk, VRep]
 | (k, av) :: r, hr => by
  simp only [cvtE, lk] at hr ⊢
  split
  ·next e =>
   rw [if_pos e] at hr
   unfold cvtV
   split
   ·next i el j =>
    split
    ·next e2 =>
     subst e2
     split
     ·next e3 => subst e3; exact Hp _ _ hr
     ·simp [VRep]
    ·next e2 => exact H _ _ (by simpa [AV.refs] using e2) hr
   ·split
    ·simp [VRep]
    ·next e2 => exact H _ _ (by simpa using e2) hr
  ·next e => rw [if_neg e] at hr; exact cvtE_rep H Hp hr

theorem s_stN (h : At n0 S0 M0 w0 st o a w g) {t u1 u2 : TypeId} {sz : Nat} {p x : Operand} {A X : Ax.X} {f : St → Prop} (ho : o.op = .store t p x) (hd : o.dst = none) (hp : resX P u1 p = some A) (hx : resX P u2 x = some X)
  (hz : szOf P t = some sz) {id el j : Nat} (eA : st.ev A = .pw id el j) (hq : stN (st.unit id) id el j sz (st.ev X) st f) : o.wp P a w (EPost n0 S0 M0 w0 st.n f) Q' := by
 have ep := h.ev_ hp
 have ex := h.ev_ hx
 have hs := h.sat
 unfold stN at hq
 split at hq
 ·next ow nn usz d hun =>
  obtain ⟨⟨q1, q2, rfl, rfl, rfl, q6, q7, q8, q9⟩, hf⟩ := hq
  have hm := mem_of_lu hun
  rw [eA] at ep
  simp only [VRep] at ep
  obtain ⟨ow', nn', sz', es', b, r1, r2, r3, r4, hv⟩ := ep
  have := h.us.uniq r1 hm
  injection this with e1 e2 e3 e4
  subst e1 e2 e3 e4
  have hU := h.us.each _ hm
  simp only [UOk] at hU
  obtain ⟨_, hse, hU⟩ := hU
  rcases hU with ⟨z1, _⟩ | ⟨b', c, e, G, cs, rest, k1, k2, k3, k4, k5, k6, k7, k8⟩
  ·rw [r4] at z1; cases z1
  rw [r4] at k1
  obtain rfl := Option.some.inj k1
  simp only [RepL] at k6
  obtain ⟨F1, F2, c1, c2, rfl, rfl, k6, hF2, hc2⟩ := k6
  subst hF2 hc2
  have hF1 := noPtr_F q6 k6
  subst hF1
  have hφ : g.φ id = [b] := by
   split at k8
   ·simpa using k8
   ·exact k8.1
  have hz' := pieces_rep ex
  have hsz' := item_ok h.us hz' q7 q2
  have hl1 := k6.length
  have hds : d.size = sz' := hse d (by simp)
  have hcl : c.toList.length = c.size := by simp
  have hcap : sz' ≤ c.size := by
   rw [k3] at hcl
   simp only [List.append_nil, List.length_append, hl1] at hcl
   omega
  have hrun := run_st (P := P) (w := w) hz (b := b) (off := 0 * sz' + 0) (v := a.eval x) hsz' k2 (by omega) (piece_one hz' q8)
  have hnew : (c.toList.take (0 * sz' + 0) ++ (a.eval x).cells.toList ++ c.toList.drop (0 * sz' + 0 + sz')).toArray.toList = (a.eval x).cells.toList ++ c.toList.drop (0 * sz' + 0 + sz') := by simp
  obtain ⟨hU', K⟩ := h.us.cell (h' := (w.setRow b (c.toList.take (0 * sz' + 0) ++ (a.eval x).cells.toList ++ c.toList.drop (0 * sz' + 0 + sz')).toArray).heap) hm r4 hφ (setRow_heap w b c _ e _ k2) (setRow_size _ _ _) (fun y hy => setRow_other w b y _ hy)
   (f := AV.refs id) (k1 := []) (k2 := [id]) (by simp) (by simp) (fun av hf => ⟨by simp, by simpa using hf⟩) (sz := sz') (z := pieces (st.ev X)) (by simp) hz' q9 hsz' hnew
   (by
    rcases q1 with rfl | q1
    ·exact h.us.pin.at hm rfl
    ·exact PinAt.low q1)
  have hrep : ∀ t, VRep (w.setRow b (c.toList.take (0 * sz' + 0) ++ (a.eval x).cells.toList ++ c.toList.drop (0 * sz' + 0 + sz')).toArray).heap ((id, U.bx sz' [pieces (st.ev X)]) :: killU id (AV.refs id) st.us) g (lk (cvtE id st.env) t) (a.tmps.getD t undef) := fun t => cvtE_rep (fun av v hf hr => VRep.keepW K (by simp) (by simpa using hf) hr) (fun j v hr => by
   simp only [VRep] at hr ⊢
   obtain ⟨_, _, _, _, b2, p1, _, _, p4, p5⟩ := hr
   exact ⟨_, _, b2, List.mem_cons_self, p4, by simpa using p5⟩) (h.rep t)
  unfold Oper.wp
  have hrun' : (execOp a.eval o).run P w = .ok .skip (w.setRow b (c.toList.take (0 * sz' + 0) ++ (a.eval x).cells.toList ++ c.toList.drop (0 * sz' + 0 + sz')).toArray) := by
   have hr2 := hrun
   simp only [Nat.zero_mul, Nat.add_zero, Nat.zero_add, List.take_zero, List.nil_append] at hr2
   simp [execOp, ho, hv, hr2]
  rw [hrun', Oper.upon_skip, hd]
  refine ⟨st.cvt id (.bx sz' [pieces (st.ev X)]), rfl, hf, hs.ms, hs.dfr, hs.tm, hs.base, hs.os, hs.tape, hs.output, ?_, ?_, g, hU', hrep⟩
  ·rw [setRow_size]; exact hs.size
  ·intro y hy hmy
   have : y ≠ b := by
    rintro rfl
    exact hmy (h.us.low y (mem_fp.2 ⟨_, hm, by rw [hφ]; simp⟩) hy)
   rw [setRow_other w b y _ this]
   exact hs.old y hy hmy
 ·exact hq.elim

theorem s_stB (h : At n0 S0 M0 w0 st o a w g) {t u1 u2 : TypeId} {sz : Nat} {p x : Operand} {A X : Ax.X} {f : St → Prop} (ho : o.op = .store t p x) (hd : o.dst = none) (hp : resX P u1 p = some A) (hx : resX P u2 x = some X)
  (hz : szOf P t = some sz) {id j : Nat} (eA : st.ev A = .pb id j) (hq : stB (st.unit id) id j sz (st.ev X) st f) : o.wp P a w (EPost n0 S0 M0 w0 st.n f) Q' := by
 have ep := h.ev_ hp
 have ex := h.ev_ hx
 have hs := h.sat
 unfold stB at hq
 split at hq
 ·next usz y hun =>
  obtain ⟨⟨q0, q2, q7, q8, q9, q10⟩, hq⟩ := hq
  have hm := mem_of_lu hun
  rw [eA] at ep
  simp only [VRep] at ep
  obtain ⟨sz', items', b, r1, r4, hv⟩ := ep
  have := h.us.uniq r1 hm
  injection this with e1 e2
  subst e1 e2
  have hU := h.us.each _ hm
  simp only [UOk] at hU
  obtain ⟨_, b', c, e, vs, rest, k1, k2, hφ, k4, k5, k6⟩ := hU
  rw [r4] at k1
  obtain rfl := Option.some.inj k1
  simp only [VRepL] at k4
  obtain ⟨vy, r, rfl, hy, rfl⟩ := k4
  have hys := k5 q0 vy (by simp)
  have hc : c.toList = vy.cells.toList ++ rest := by simpa using k6
  have hxs := item_ok h.us ex q7 q2
  have hcl : c.toList.length = c.size := by simp
  have hcs : c.size = sz' + rest.length := by rw [← hcl, hc]; simp [hys]

  have fin : ∀ (z : AV) (vz : Value), VRep w.heap st.us g z vz → z.refs id = false → vz.cells.size = sz' → j + sz ≤ sz' → vz.cells.toList = vy.cells.toList.take j ++ (a.eval x).cells.toList ++ vy.cells.toList.drop (j + sz) → f (st.upd id (.bx sz' [z])) → o.wp P a w (EPost n0 S0 M0 w0 st.n f) Q' := by
   intro z vz hz1 hz2 hz3 hj hz4 hf
   have hrun := run_st (P := P) (w := w) hz (b := b) (off := j) (v := a.eval x) hxs k2 (by omega) (piece_one ex q8)
   have hnew : (c.toList.take j ++ (a.eval x).cells.toList ++ c.toList.drop (j + sz)).toArray.toList = vz.cells.toList ++ rest := by
    have l1 : vy.cells.toList.length = sz' := by simpa using hys
    simp only [hz4, hc]
    rw [List.take_append_of_le_length (by omega), List.drop_append_of_le_length (by omega)]
    simp
   obtain ⟨hU', K⟩ := h.us.cell (h' := (w.setRow b (c.toList.take j ++ (a.eval x).cells.toList ++ c.toList.drop (j + sz)).toArray).heap) hm r4 hφ (setRow_heap w b c _ e _ k2) (setRow_size _ _ _) (fun y hy => setRow_other w b y _ hy)
    (f := AV.soft id) (k1 := [id]) (k2 := []) (by simp) (by simp) (fun av hf => ⟨by simpa using hf, by simp⟩) (sz := sz') (z := z) (fun _ => by simp [likeW]) hz1 hz2 hz3 hnew (h.us.pin.at hm rfl)
   unfold Oper.wp
   have hrun' : (execOp a.eval o).run P w = .ok .skip (w.setRow b (c.toList.take j ++ (a.eval x).cells.toList ++ c.toList.drop (j + sz)).toArray) := by
    simp [execOp, ho, hv, hrun]
   rw [hrun', Oper.upon_skip, hd]
   refine ⟨st.upd id (.bx sz' [z]), rfl, hf, hs.ms, hs.dfr, hs.tm, hs.base, hs.os, hs.tape, hs.output, ?_, ?_, g, hU', fun t => killE_rep K.rep (h.rep t)⟩
   ·rw [setRow_size]; exact hs.size
   ·intro y hy hmy
    have : y ≠ b := by
     rintro rfl
     exact hmy (h.us.low y (mem_fp.2 ⟨_, hm, by rw [hφ]; simp⟩) hy)
    rw [setRow_other w b y _ this]
    exact hs.old y hy hmy
  unfold setV at hq
  split at hq
  ·next hc1 =>
   obtain ⟨rfl, rfl⟩ := hc1
   refine fin (st.ev X) (a.eval x) ex q9 hxs (by omega) ?_ hq
   have : vy.cells.toList.drop (0 + sz) = [] := List.drop_eq_nil_of_le (by simp [hys])
   rw [this]
   simp
  ·split at hq
   ·rename_i ys _
    obtain ⟨⟨p1, p2, rfl, p4⟩, hf⟩ := hq
    simp only [VRep] at hy
    obtain ⟨xs, hxs', rfl⟩ := hy
    have hfl := one0s_cells hxs' p1
    have hl := VRepL_len0 hxs'
    have hone := one0_val ex p4
    have hset : ∀ {vs : List AV} {xs : List Value} {j : Nat}, VRepL w.heap st.us g vs xs → VRepL w.heap st.us g (vs.set j (st.ev X)) (xs.set j (a.eval x)) := by
     intro vs
     induction vs with
     | nil => intro xs j hr; simp only [VRepL] at hr; subst hr; simp [VRepL]
     | cons v vs ih =>
      intro xs j hr
      simp only [VRepL] at hr
      obtain ⟨x0, r, rfl, a1, a2⟩ := hr
      cases j with
      | zero => simp only [List.set_cons_zero, VRepL]; exact ⟨_, _, rfl, ex, a2⟩
      | succ j => simp only [List.set_cons_succ, VRepL]; exact ⟨_, _, rfl, a1, ih a2⟩
    have hall2 : (ys.set j (st.ev X)).all AV.one0 = true := by
     rw [List.all_eq_true] at p1 ⊢
     intro v hv
     rcases List.mem_or_eq_of_mem_set hv with h | h
     ·exact p1 v h
     ·rw [h]; exact p4
    have hfl2 := one0s_cells (hset (j := j) hxs') hall2
    have hyr : AV.refsL id (ys.set j (st.ev X)) = false := by
     have hr0 : AV.refsL id ys = false := by simpa [AV.refs] using q10
     have : ∀ {l : List AV} {j : Nat}, AV.refsL id l = false → AV.refsL id (l.set j (st.ev X)) = false := by
      intro l
      induction l with
      | nil => intro j h; simpa using h
      | cons v l ih =>
       intro j h
       simp only [AV.refsL, Bool.or_eq_false_iff] at h
       cases j with
       | zero => simp only [List.set_cons_zero, AV.refsL, q9, h.2, Bool.or_self]
       | succ j => simp only [List.set_cons_succ, AV.refsL, h.1, ih h.2, Bool.or_self]
     exact this hr0
    have hsz1 : xs.length = sz' := by
     rw [hfl] at hys
     simpa [Value.cells] using hys
    refine fin (.sg (ys.set j (st.ev X))) (.agg ((xs.set j (a.eval x)).map (·.cells.toList)).flatten.toArray) (by simp only [VRep]; exact ⟨_, hset hxs', rfl⟩) (by simpa [AV.refs] using hyr) (by rw [hfl2]; simp [Value.cells, hsz1]) (by omega) ?_ hf
    have e3 : ∀ l : List Value, (Value.agg l.toArray).cells.toList = l := fun l => by simp [Value.cells]
    have hcx : (a.eval x).cells.toList = [a.eval x] := by rw [cells_one hone]
    rw [hfl, hfl2, e3, e3, hcx]
    rw [List.set_eq_take_append_cons_drop, if_pos (by omega)]
    simp
   ·exact hq.elim
 ·exact hq.elim

theorem s_st (h : At n0 S0 M0 w0 st o a w g) {t u1 u2 : TypeId} {sz : Nat} {p x : Operand} {A X : Ax.X} {f : St → Prop} (ho : o.op = .store t p x) (hd : o.dst = none) (hp : resX P u1 p = some A) (hx : resX P u2 x = some X)
  (hz : szOf P t = some sz) (hq : stK (st.ev A) (st.ev X) st sz f) : o.wp P a w (EPost n0 S0 M0 w0 st.n f) Q' := by
 unfold stK at hq
 split at hq
 ·next id el j e1 =>
  split at hq
  ·exact s_stN h ho hd hp hx hz e1 hq
  ·exact s_st1 h ho hd hp hx hz (by rw [e1]; exact hq)
 ·next e1 => exact s_st1 h ho hd hp hx hz (by rw [e1]; exact hq)
 ·next id j e1 => exact s_stB h ho hd hp hx hz e1 hq
 ·next id e1 => exact s_stS h ho hd hp hx hz e1 hq
 ·next tk b q e1 =>
  obtain ⟨id, hq⟩ := hq
  exact s_stA h ho hd hp hx hz e1 hq
 ·exact hq.elim

end Go.Ax
namespace Go.Ax

variable {P : Program} {n0 : Nat} {S0 M0 : Nat → Prop} {w0 : World}
variable {st : St} {o : Oper} {a : Act} {w : World} {k : KQ} {Q' : Exit → Act → World → Prop} {g : Gh}

theorem bsOp_dst {wv : Wv} {d sz : Nat} {z : D} {l : Nat} {ps : List (Nat × X)} : (bsOp wv d sz z l ps).dst = some d := by
 unfold bsOp
 split <;> rfl
theorem bsOp_isQ {wv : Wv} {d sz : Nat} {z : D} {l : Nat} {ps : List (Nat × X)} : (bsOp wv d sz z l ps).isQ = true := by
 unfold bsOp
 split <;> rfl

theorem s_bsw {wv : Wv} (h : At n0 S0 M0 w0 st o a w g) {t e : TypeId} {len d sz : Nat} {ps : Array (Nat × Operand)} {z : D} {L : List (Nat × X)} (ho : o.op = .buildSlice t len ps) (ht : P.underlying t = some (.slice e))
  (hs : szOf P e = some sz) (hz : zeroOf P e = some z) (hL : ps.toList.mapM (fun (i, x) => do pure (i, ← resX P e x)) = some L)
  (hq : qOp P (bsOp wv d sz z len L) st.ev st.unit k) : o.wp P a w (QPost n0 S0 M0 w0 st o.dst k) Q' := by
 unfold bsOp at hq
 split at hq
 ·obtain ⟨q1, hk⟩ := hq
  have hps : ps = #[] := by
   obtain ⟨_, b2⟩ := bs_parts h ps.toList [] hL
   have : ps.toList = [] := by simpa using b2.symm
   apply Array.ext'
   simpa using this
  subst hps
  have hs0 := h.sat
  have hb0 : n0 ≤ w.heap.size := by rw [hs0.base]; exact hs0.size
  unfold szOf at hs
  cases hinf : P.info? e with
  | none => simp [hinf] at hs
  | some inf =>
   unfold zeroOf at hz
   rw [hinf] at hz
   dsimp only at hz
   split at hz
   ·next zv hzv =>
    obtain ⟨hU, hV⟩ := h.us.wide (h' := w.heap.push (.cells #[] e (0, 0))) (by simp) (fun b hb => push_old hb) hb0 [] (by simp)
    have hrun : (execOp a.eval o).run P w = .ok (.value (.slice (some ⟨w.heap.size, 0, none⟩) 0 0)) (w.alloc (.cells #[] e)) := by
     simp [execOp, ho, Instr.buildSlice, run_underlying ht, sizeOf, typeInfo, hinf, newRow, Instr.fill]
     congr 2
     try (apply Array.ext'; simp)
    unfold Oper.wp
    rw [hrun]
    refine ⟨_, [], hk, fun _ => ?_⟩
    rw [addUs_nil]
    have hS : Sat n0 S0 M0 w0 st a (w.alloc (.cells #[] e)) := by
     refine ⟨hs0.ms, hs0.dfr, hs0.tm, hs0.base, hs0.os, hs0.tape, hs0.output, ?_, ?_, _, hU, fun t => hV _ _ (h.rep t)⟩
     ·have := hs0.size
      show _ ≤ (w.heap.push _).size
      simp
      omega
     ·intro b hb hm
      have : (w.heap.push (.cells #[] e (0, 0)))[b]? = w.heap[b]? := push_old (by omega)
      exact this.trans (hs0.old b hb hm)
    refine sat_set hS hU (fun t => hV _ _ (h.rep t)) (fun i hi => h.dst i hi) ?_
    simp only [VRep]
    exact ⟨_, rfl, by simp, by simp⟩
   ·cases hz
 ·exact s_bs h ho ht hs hz hL hq

end Go.Ax
namespace Go.Ax

variable {P : Program} {n0 : Nat} {S0 M0 : Nat → Prop} {w0 : World}
variable {st : St} {o : Oper} {a : Act} {w : World} {k : KQ} {Q' : Exit → Act → World → Prop} {g : Gh}

theorem zerOp_isQ {d : Nat} {e : TypeId} {r : ROp} (h : zerOp P d e = some r) : r.isQ = true := by
 unfold zerOp at h
 split at h
 ·injection h with h; subst h; rfl
 ·simp only [oD, oB, oP, oS] at h
  obtain ⟨s, hs, z, hz, rfl⟩ := h
  rfl

theorem bldE_ok {e E : TypeId} (h : bldE P e = some E) : ∃ i, P.info? e = some i ∧ i.zero = some (.agg #[.pointer none, .slice none 0 0]) ∧ P.underlying E = some (.int .u8) := by
 unfold bldE at h
 split at h
 ·next fs i h1 h2 =>
  split at h
  ·next f0 f1 h3 =>
   split at h
   ·next t E' h4 h5 =>
    split at h
    ·next hc =>
     injection h with h
     subst h
     simp only [bA] at hc
     refine ⟨i, h2, ?_, ?_⟩
     ·have hz := hc.2
      unfold zeroIsBld at hz
      split at hz
      ·next cs hcs =>
       split at hz
       ·next l c hl =>
        simp only [bA, beq_iff_eq] at hz
        obtain ⟨rfl, rfl⟩ := hz
        rw [hcs]
        congr 2
        apply Array.ext'
        simpa using hl
       ·cases hz
      ·cases hz
     ·have hu := hc.1.2
      unfold isU8 at hu
      split at hu
      ·next k hk =>
       have : k = .u8 := by simpa using hu
       subst this
       exact hk
      ·cases hu
    ·cases h
   ·cases h
  ·cases h
 ·cases h

theorem s_zerw (h : At n0 S0 M0 w0 st o a w g) {e : TypeId} {d : Nat} {r : ROp} (ho : o.op = .alloc e) (hr : zerOp P d e = some r) (hq : qOp P r st.ev st.unit k) :
  o.wp P a w (QPost n0 S0 M0 w0 st o.dst k) Q' ∧ r.dst = some d := by
 unfold zerOp at hr
 split at hr
 ·next E hE =>
  injection hr with hr
  subst hr
  obtain ⟨hlow, hk⟩ := hq
  obtain ⟨i, hi, hz, _⟩ := bldE_ok hE
  refine ⟨?_, rfl⟩
  refine alloc_post h (c := #[.pointer none, .slice none 0 0]) (e := e) (v := .pointer (some ⟨w.heap.size, 0, none⟩)) [w.heap.size] 1 ?_ rfl ?_ ?_ hk (fun _ => hlow)
  ·simp [execOp, ho, Instr.alloc, zeroValue, typeInfo, hi, hz, newVar, newRow, Value.cells]
  ·intro _
   simp only [UOk, add_self]
   exact ⟨w.heap.size, [], rfl, rfl, .pointer none, .slice none 0 0, push_last _ _, .inl rfl, .inl ⟨rfl, rfl, rfl⟩⟩
  ·intro _
   simp only [VRep]
   exact ⟨_, _, _, w.heap.size, List.mem_cons_self, by simp [add_self], rfl⟩
 ·simp only [oD, oB, oP, oS] at hr
  obtain ⟨s, hs, z, hz, rfl⟩ := hr
  exact ⟨s_zer h ho hz hq, rfl⟩

end Go.Ax
namespace Go.Ax

variable {P : Program} {wv : Wv} {n0 : Nat} {S0 M0 : Nat → Prop} {w0 : World}
variable {st : St} {o : Oper} {a : Act} {w : World} {k : KQ} {Q' : Exit → Act → World → Prop} {g : Gh}

theorem guard_some {p : Prop} [Decidable p] {u : Unit} : (guard p : Option Unit) = some u ↔ p := by
 unfold guard
 split <;> simp_all

theorem q_sound {n : Nat} {r : ROp} (hres : resOp P wv n o = some r) (hQ : r.isQ = true) (hn : st.n = n) (h : At n0 S0 M0 w0 st o a w g) (hq : qOp P r st.ev st.unit k) :
  o.wp P a w (QPost n0 S0 M0 w0 st o.dst k) Q' ∧ r.dst = o.dst := by
 unfold resOp at hres
 split at hres
 ·next x ho =>
  simp only [oD, oB, oP, oS, guard_some] at hres
  obtain ⟨d, hd, _, _, X, hX, rfl⟩ := hres
  exact ⟨s_mv h (.inl ho) hX hq, hd.symm⟩
 ·next x ho =>
  simp only [oD, oB, oP, oS, guard_some] at hres
  obtain ⟨d, hd, _, _, X, hX, rfl⟩ := hres
  exact ⟨s_mv h (.inr ho) hX hq, hd.symm⟩
 ·next c x y ho =>
  simp only [oD, oB, oP, oS, guard_some] at hres
  obtain ⟨d, hd, _, _, C, hC, X, hX, Y, hY, rfl⟩ := hres
  exact ⟨s_pick h ho hC hX hY hq, hd.symm⟩
 ·next e x ho =>
  simp only [oD, oB, oP, oS, guard_some] at hres
  obtain ⟨d, hd, _, _, s, hs, X, hX, rfl⟩ := hres
  exact ⟨s_box h ho hX hq, hd.symm⟩
 ·next e ho =>
  simp only [oD, oB, oP, guard_some] at hres
  obtain ⟨d, hd, _, _, hres⟩ := hres
  obtain ⟨h1, h2⟩ := s_zerw h ho hres hq
  exact ⟨h1, by rw [h2]; exact hd.symm⟩
 ·next t x ho =>
  simp only [oD, oB, oP, oS, guard_some] at hres
  obtain ⟨d, hd, _, _, s, hs, ag, hag, _, h1, X, hX, rfl⟩ := hres
  exact ⟨s_ld h ho hX hs hag (fun e => by subst e; simpa using h1) hq, hd.symm⟩
 ·next t p x ho =>
  simp only [oD, oB, oP, oS, guard_some] at hres
  obtain ⟨_, _, s, _, A, _, X, _, rfl⟩ := hres
  cases hQ
 ·next x ho =>
  simp only [oD, oB, oP, oS, guard_some] at hres
  obtain ⟨d, hd, _, _, X, hX, rfl⟩ := hres
  exact ⟨s_nck h ho hX hq, hd.symm⟩
 ·next op t x y u ho =>
  simp only [oD, oB, oP, guard_some] at hres
  obtain ⟨d, hd, _, _, hres⟩ := hres
  split at hres <;> (try simp only [oB, oS] at hres)
  ·obtain ⟨X, hX, Y, hY, rfl⟩ := hres
   exact ⟨s_bin h ho hX hY hq, hd.symm⟩
  ·obtain ⟨X, hX, Y, hY, rfl⟩ := hres
   exact ⟨s_bin h ho hX hY hq, hd.symm⟩
  ·next ht _ _ => obtain ⟨X, hX, Y, hY, rfl⟩ := hres; exact ⟨s_beq h ho hX hY (by assumption) (.inl ⟨rfl, rfl⟩) hq, hd.symm⟩
  ·obtain ⟨X, hX, Y, hY, rfl⟩ := hres; exact ⟨s_beq h ho hX hY (by assumption) (.inr ⟨rfl, rfl⟩) hq, hd.symm⟩
  ·obtain ⟨X, hX, Y, hY, rfl⟩ := hres; exact ⟨s_snil h ho hX hY (by assumption) (.inl ⟨rfl, rfl⟩) hq, hd.symm⟩
  ·obtain ⟨X, hX, Y, hY, rfl⟩ := hres; exact ⟨s_snil h ho hX hY (by assumption) (.inr ⟨rfl, rfl⟩) hq, hd.symm⟩
  ·next fs ht =>
   split at hres <;> (try simp only [oB, oS] at hres)
   ·next hok => obtain ⟨X, hX, Y, hY, rfl⟩ := hres; exact ⟨s_ceq h ho hX hY ht hok (.inl ⟨rfl, rfl⟩) hq, hd.symm⟩
   ·subst hres; cases hQ
  ·next fs ht =>
   split at hres <;> (try simp only [oB, oS] at hres)
   ·next hok => obtain ⟨X, hX, Y, hY, rfl⟩ := hres; exact ⟨s_ceq h ho hX hY ht hok (.inr ⟨rfl, rfl⟩) hq, hd.symm⟩
   ·subst hres; cases hQ
  ·subst hres; cases hQ
 ·next op t x ho =>
  simp only [oD, oB, oP, oS, guard_some] at hres
  obtain ⟨d, hd, _, _, X, hX, rfl⟩ := hres
  exact ⟨s_un h ho hX hq, hd.symm⟩
 ·next s t x ho =>
  simp only [oD, oB, oP, guard_some] at hres
  obtain ⟨d, hd, _, _, hres⟩ := hres
  split at hres <;> (try simp only [oB, oS] at hres)
  ·obtain ⟨X, hX, rfl⟩ := hres
   exact ⟨s_cvt h ho hX (by assumption) (by assumption) hq, hd.symm⟩
  ·split at hres <;> simp only [oB, oS] at hres
   ·obtain ⟨X, hX, rfl⟩ := hres
    exact hq.elim
   ·subst hres; cases hQ
  ·subst hres; cases hQ
 ·next t l c ho =>
  simp only [oD, oB, oP, oS, guard_some] at hres
  obtain ⟨d, hd, _, _, e, he, i, hi, z, hz, L, hL, C, hC, rfl⟩ := hres
  have ht : P.underlying t = some (.slice e) := by
   unfold elemOf at he
   split at he
   ·next e' h' => injection he with he; subst he; exact h'
   ·cases he
  exact ⟨s_mk h ho ht hi rfl rfl hz hL hC hq, hd.symm⟩
 ·next t x lo hi ho =>
  simp only [oD, oB, oP, guard_some] at hres
  obtain ⟨d, hd, _, _, Lo, hLo, Hi, hHi, hres⟩ := hres
  have l1 : ∀ y, lo = some y → ∃ Y, Lo = some Y ∧ resX P 0 y = some Y := by
   rintro y rfl
   simp only [Option.map_eq_some_iff] at hLo
   obtain ⟨Y, h1, rfl⟩ := hLo
   exact ⟨Y, rfl, h1⟩
  have l2 : lo = none → Lo = none := by rintro rfl; simpa using hLo.symm
  have l3 : ∀ y, hi = some y → ∃ Y, Hi = some Y ∧ resX P 0 y = some Y := by
   rintro y rfl
   simp only [Option.map_eq_some_iff] at hHi
   obtain ⟨Y, h1, rfl⟩ := hHi
   exact ⟨Y, rfl, h1⟩
  have l4 : hi = none → Hi = none := by rintro rfl; simpa using hHi.symm
  split at hres <;> simp only [oB, oS] at hres
  ·obtain ⟨s, hs, X, hX, rfl⟩ := hres
   exact ⟨s_slc h ho (by assumption) hs hX l1 l2 l3 l4 hq, hd.symm⟩
  ·obtain ⟨X, hX, rfl⟩ := hres
   exact hq.elim
  ·subst hres; cases hQ
 ·next t x lo hi mx ho =>
  simp only [oD, oB, oP, guard_some] at hres
  obtain ⟨d, hd, _, _, hres⟩ := hres
  split at hres
  ·next e ht =>
   split at hres
   ·next hc0 =>
    simp only [oB, oS] at hres
    obtain ⟨s, hs, X, hX, rfl⟩ := hres
    simp only [bA] at hc0
    cases hi with
    | none => simp at hc0
    | some hi => exact hq.elim
   ·simp only [oS] at hres; subst hres; cases hQ
  ·simp only [oS] at hres; subst hres; cases hQ
 ·next fn first captured ho =>
  simp only [oD, oB, oP, guard_some] at hres
  obtain ⟨d, hd, _, _, hres⟩ := hres
  split at hres
  ·next f hf =>
   simp only [oB, oS] at hres
   obtain ⟨Xs, hXs, rfl⟩ := hres
   have hf' : first = #[] := by apply Array.ext'; simpa using hf
   subst hf'
   exact ⟨s_mkf h ho hXs hq, hd.symm⟩
  ·simp only [oS] at hres; subst hres; cases hQ
 ·next t x i ho =>
  simp only [oD, oB, oP, guard_some] at hres
  obtain ⟨d, hd, _, _, hres⟩ := hres
  split at hres
  ·next fs ht =>
   simp only [oB, oS, guard_some] at hres
   obtain ⟨f, hf, z, hz, _, hz0, X, hX, rfl⟩ := hres
   exact ⟨s_fa h ho hX ht hf rfl hz (by simpa using hz0) hq, hd.symm⟩
  ·cases hres
 ·next t x i ho =>
  simp only [oD, oB, oP, guard_some] at hres
  obtain ⟨d, hd, _, _, hres⟩ := hres
  split at hres
  ·next fs ht =>
   simp only [oB, oS, guard_some] at hres
   obtain ⟨f, hf, s, hs, ag, hag, _, h1, X, hX, rfl⟩ := hres
   exact hq.elim
  ·cases hres
 ·next t x i ho =>
  simp only [oD, oB, oP, guard_some] at hres
  obtain ⟨d, hd, _, _, hres⟩ := hres
  split at hres
  ·next e ht =>
   simp only [oB, oS] at hres
   obtain ⟨s, hs, X, hX, I, hI, rfl⟩ := hres
   exact ⟨s_ia h ho hX hI ht hs hq, hd.symm⟩
  ·simp only [oS] at hres; subst hres; cases hQ
 ·next t x i ho =>
  simp only [oD, oB, oP, guard_some] at hres
  obtain ⟨d, hd, _, _, hres⟩ := hres
  split at hres
  ·next ht =>
   simp only [oB, oS] at hres
   obtain ⟨X, hX, I, hI, rfl⟩ := hres
   exact hq.elim
  ·simp only [oS] at hres; subst hres; cases hQ
 ·next x i ho =>
  simp only [oD, oB, oP, oS, guard_some] at hres
  obtain ⟨d, hd, _, _, X, hX, rfl⟩ := hres
  exact ⟨s_ext h ho hX hq, hd.symm⟩
 ·next t l ps ho =>
  simp only [oD, oB, oP, oS, guard_some] at hres
  obtain ⟨d, hd, _, _, e, he, s, hs, z, hz, L, hL, rfl⟩ := hres
  have ht : P.underlying t = some (.slice e) := by
   unfold elemOf at he
   split at he
   ·next e' h' => injection he with he; subst he; exact h'
   ·cases he
  exact ⟨s_bsw h ho ht hs hz hL hq, by rw [bsOp_dst]; exact hd.symm⟩
 ·next t ps ho =>
  simp only [oD, oB, oP, guard_some] at hres
  obtain ⟨d, hd, _, _, hres⟩ := hres
  split at hres
  ·next fs ht =>
   simp only [oB, oS] at hres
   obtain ⟨places, hpl, z, hz, L, hL, rfl⟩ := hres
   exact ⟨s_bld h ho ht hpl hz hL hq, hd.symm⟩
  ·simp only [oS] at hres; subst hres; cases hQ
 ·next c ho =>
  split at hres
  ·next f hc =>
   simp only [oD, oB, guard_some] at hres
   obtain ⟨_, _, _, hl, Xs, hXs, hres⟩ := hres
   split at hres
   ·split at hres
    ·simp only [oP, oS] at hres; subst hres; cases hQ
    ·cases hres
   split at hres
   ·split at hres
    ·simp only [oP, oS] at hres; subst hres; cases hQ
    ·cases hres
   split at hres
   ·split at hres
    ·simp only [oP, oS] at hres; subst hres; cases hQ
    ·cases hres
   split at hres
   ·split at hres
    ·simp only [oP, oS] at hres; subst hres; cases hQ
    ·cases hres
   split at hres
   ·simp only [oP, oS] at hres; subst hres; cases hQ
   ·simp only [oP, oS] at hres
    subst hres
    exact ⟨s_call h ho hc (by simpa using hl) hXs hq, rfl⟩
  ·next x _ hc =>
   simp only [oD, oB, oP, oS, guard_some] at hres
   obtain ⟨_, _, _, hl, X, hX, Xs, hXs, rfl⟩ := hres
   cases wv with
   | yes => cases hQ
   | no => exact ⟨s_calv h ho hc hX (by simpa using hl) hXs hq, rfl⟩
   | ap => exact ⟨s_calv h ho hc hX (by simpa using hl) hXs hq, rfl⟩
  ·next hc =>
   simp only [oD, oB, guard_some] at hres
   obtain ⟨d, hd, _, _, hres⟩ := hres
   split at hres
   ·next x t ha hta =>
    have ha' : c.args = #[x] := by apply Array.ext'; simpa using ha
    have hta' : c.argTypes = #[t] := by apply Array.ext'; simpa using hta
    split at hres <;> simp only [oB, oP, oS] at hres
    ·obtain ⟨X, hX, rfl⟩ := hres
     exact hq.elim
    ·obtain ⟨X, hX, rfl⟩ := hres
     exact ⟨s_len h ho hc ha' hta' hX (by assumption) hq, hd.symm⟩
    ·subst hres; cases hQ
   ·cases hres
  ·next hc =>
   simp only [oD, oB, guard_some] at hres
   obtain ⟨d, hd, _, _, hres⟩ := hres
   split at hres
   ·next x y t u ha hta =>
    have ha' : c.args = #[x, y] := by apply Array.ext'; simpa using ha
    simp only [oB, oP, oS] at hres
    obtain ⟨X, hX, Y, hY, rfl⟩ := hres
    exact hq.elim
   ·cases hres
  ·next hc =>
   simp only [oD, oB, guard_some] at hres
   obtain ⟨d, hd, _, _, hres⟩ := hres
   split at hres
   ·next x y t u ha hta =>
    have ha' : c.args = #[x, y] := by apply Array.ext'; simpa using ha
    simp only [oB, oP, oS] at hres
    obtain ⟨X, hX, Y, hY, rfl⟩ := hres
    exact hq.elim
   ·cases hres
  ·next hc =>
   simp only [oD, oB, guard_some] at hres
   obtain ⟨d, hd, _, _, hres⟩ := hres
   split at hres
   ·next x y t u ha hta =>
    split at hres <;> simp only [oB, oP, oS, guard_some] at hres
    ·next e _ ht _ =>
     obtain ⟨i, hi, _, htu, z, hz, X, hX, Y, hY, rfl⟩ := hres
     cases wv with
     | yes => cases hQ
     | no => cases hQ
     | ap =>
      have ha' : c.args = #[x, y] := by apply Array.ext'; simpa using ha
      have hta' : c.argTypes = #[t, u] := by apply Array.ext'; simpa using hta
      have htu : t = u := by simpa using htu
      subst htu
      exact hq.elim
    ·subst hres; cases hQ
   ·cases hres
  ·next hc =>
   simp only [oD, oB, guard_some] at hres
   obtain ⟨_, _, hres⟩ := hres
   split at hres
   ·next x y t u ha hta =>
    have ha' : c.args = #[x, y] := by apply Array.ext'; simpa using ha
    have hta' : c.argTypes = #[t, u] := by apply Array.ext'; simpa using hta
    split at hres <;> simp only [oB, oP, oS, guard_some] at hres
    ·obtain ⟨s, hs, _, htu, X, hX, Y, hY, rfl⟩ := hres
     cases hQ
    ·subst hres; cases hQ
   ·cases hres
  ·simp only [oP, oS] at hres; subst hres; cases hQ
 ·simp only [oP, oS] at hres; subst hres; cases hQ

end Go.Ax
namespace Go.Ax

variable {P : Program} {wv : Wv} {n0 : Nat} {S0 M0 : Nat → Prop} {w0 : World}
variable {st : St} {o : Oper} {a : Act} {w : World} {k : KQ} {Q' : Exit → Act → World → Prop} {g : Gh}

theorem e_sound {n : Nat} {r : ROp} (hres : resOp P wv n o = some r) (hQ : r.isQ = false) (h : At n0 S0 M0 w0 st o a w g) {f : St → Prop} (hq : eOp2 P r st f) :
  o.wp P a w (EPost n0 S0 M0 w0 st.n f) Q' := by
 unfold resOp at hres
 split at hres
 ·next x ho =>
  simp only [oD, oB, oP, oS, guard_some] at hres
  obtain ⟨d, hd, _, _, X, hX, rfl⟩ := hres
  cases hQ
 ·next x ho =>
  simp only [oD, oB, oP, oS, guard_some] at hres
  obtain ⟨d, hd, _, _, X, hX, rfl⟩ := hres
  cases hQ
 ·next c x y ho =>
  simp only [oD, oB, oP, oS, guard_some] at hres
  obtain ⟨d, hd, _, _, C, hC, X, hX, Y, hY, rfl⟩ := hres
  cases hQ
 ·next e x ho =>
  simp only [oD, oB, oP, oS, guard_some] at hres
  obtain ⟨d, hd, _, _, s, hs, X, hX, rfl⟩ := hres
  cases hQ
 ·next e ho =>
  simp only [oD, oB, oP, guard_some] at hres
  obtain ⟨d, hd, _, _, hres⟩ := hres
  rw [zerOp_isQ hres] at hQ
  cases hQ
 ·next t x ho =>
  simp only [oD, oB, oP, oS, guard_some] at hres
  obtain ⟨d, hd, _, _, s, hs, ag, hag, _, h1, X, hX, rfl⟩ := hres
  cases hQ
 ·next t p x ho =>
  simp only [oD, oB, oP, oS, guard_some] at hres
  obtain ⟨_, hd, s, hs, A, hA, X, hX, rfl⟩ := hres
  exact s_st h ho (by simpa using hd) hA hX hs hq
 ·next x ho =>
  simp only [oD, oB, oP, oS, guard_some] at hres
  obtain ⟨d, hd, _, _, X, hX, rfl⟩ := hres
  cases hQ
 ·next op t x y u ho =>
  simp only [oD, oB, oP, guard_some] at hres
  obtain ⟨d, hd, _, _, hres⟩ := hres
  split at hres <;> (try simp only [oB, oS] at hres)
  ·obtain ⟨X, hX, Y, hY, rfl⟩ := hres
   cases hQ
  ·obtain ⟨X, hX, Y, hY, rfl⟩ := hres
   cases hQ
  ·next ht _ _ => obtain ⟨X, hX, Y, hY, rfl⟩ := hres; cases hQ
  ·obtain ⟨X, hX, Y, hY, rfl⟩ := hres; cases hQ
  ·obtain ⟨X, hX, Y, hY, rfl⟩ := hres; cases hQ
  ·obtain ⟨X, hX, Y, hY, rfl⟩ := hres; cases hQ
  ·split at hres <;> (try simp only [oB, oS] at hres)
   ·obtain ⟨X, hX, Y, hY, rfl⟩ := hres; cases hQ
   ·subst hres; exact hq.elim
  ·split at hres <;> (try simp only [oB, oS] at hres)
   ·obtain ⟨X, hX, Y, hY, rfl⟩ := hres; cases hQ
   ·subst hres; exact hq.elim
  ·subst hres; exact hq.elim
 ·next op t x ho =>
  simp only [oD, oB, oP, oS, guard_some] at hres
  obtain ⟨d, hd, _, _, X, hX, rfl⟩ := hres
  cases hQ
 ·next s t x ho =>
  simp only [oD, oB, oP, guard_some] at hres
  obtain ⟨d, hd, _, _, hres⟩ := hres
  split at hres <;> (try simp only [oB, oS] at hres)
  ·obtain ⟨X, hX, rfl⟩ := hres
   cases hQ
  ·split at hres <;> simp only [oB, oS] at hres
   ·obtain ⟨X, hX, rfl⟩ := hres
    cases hQ
   ·subst hres; exact hq.elim
  ·subst hres; exact hq.elim
 ·next t l c ho =>
  simp only [oD, oB, oP, oS, guard_some] at hres
  obtain ⟨d, hd, _, _, e, he, i, hi, z, hz, L, hL, C, hC, rfl⟩ := hres
  have ht : P.underlying t = some (.slice e) := by
   unfold elemOf at he
   split at he
   ·next e' h' => injection he with he; subst he; exact h'
   ·cases he
  cases hQ
 ·next t x lo hi ho =>
  simp only [oD, oB, oP, guard_some] at hres
  obtain ⟨d, hd, _, _, Lo, hLo, Hi, hHi, hres⟩ := hres
  have l1 : ∀ y, lo = some y → ∃ Y, Lo = some Y ∧ resX P 0 y = some Y := by
   rintro y rfl
   simp only [Option.map_eq_some_iff] at hLo
   obtain ⟨Y, h1, rfl⟩ := hLo
   exact ⟨Y, rfl, h1⟩
  have l2 : lo = none → Lo = none := by rintro rfl; simpa using hLo.symm
  have l3 : ∀ y, hi = some y → ∃ Y, Hi = some Y ∧ resX P 0 y = some Y := by
   rintro y rfl
   simp only [Option.map_eq_some_iff] at hHi
   obtain ⟨Y, h1, rfl⟩ := hHi
   exact ⟨Y, rfl, h1⟩
  have l4 : hi = none → Hi = none := by rintro rfl; simpa using hHi.symm
  split at hres <;> simp only [oB, oS] at hres
  ·obtain ⟨s, hs, X, hX, rfl⟩ := hres
   cases hQ
  ·obtain ⟨X, hX, rfl⟩ := hres
   cases hQ
  ·subst hres; exact hq.elim
 ·next t x lo hi mx ho =>
  simp only [oD, oB, oP, guard_some] at hres
  obtain ⟨d, hd, _, _, hres⟩ := hres
  split at hres
  ·next e ht =>
   split at hres
   ·next hc0 =>
    simp only [oB, oS] at hres
    obtain ⟨s, hs, X, hX, rfl⟩ := hres
    simp only [bA] at hc0
    cases hi with
    | none => simp at hc0
    | some hi => cases hQ
   ·simp only [oS] at hres; subst hres; exact hq.elim
  ·simp only [oS] at hres; subst hres; exact hq.elim
 ·next fn first captured ho =>
  simp only [oD, oB, oP, guard_some] at hres
  obtain ⟨d, hd, _, _, hres⟩ := hres
  split at hres
  ·next f hf =>
   simp only [oB, oS] at hres
   obtain ⟨Xs, hXs, rfl⟩ := hres
   have hf' : first = #[] := by apply Array.ext'; simpa using hf
   subst hf'
   cases hQ
  ·simp only [oS] at hres; subst hres; exact hq.elim
 ·next t x i ho =>
  simp only [oD, oB, oP, guard_some] at hres
  obtain ⟨d, hd, _, _, hres⟩ := hres
  split at hres
  ·next fs ht =>
   simp only [oB, oS, guard_some] at hres
   obtain ⟨f, hf, z, hz, _, hz0, X, hX, rfl⟩ := hres
   cases hQ
  ·cases hres
 ·next t x i ho =>
  simp only [oD, oB, oP, guard_some] at hres
  obtain ⟨d, hd, _, _, hres⟩ := hres
  split at hres
  ·next fs ht =>
   simp only [oB, oS, guard_some] at hres
   obtain ⟨f, hf, s, hs, ag, hag, _, h1, X, hX, rfl⟩ := hres
   cases hQ
  ·cases hres
 ·next t x i ho =>
  simp only [oD, oB, oP, guard_some] at hres
  obtain ⟨d, hd, _, _, hres⟩ := hres
  split at hres
  ·next e ht =>
   simp only [oB, oS] at hres
   obtain ⟨s, hs, X, hX, I, hI, rfl⟩ := hres
   cases hQ
  ·simp only [oS] at hres; subst hres; exact hq.elim
 ·next t x i ho =>
  simp only [oD, oB, oP, guard_some] at hres
  obtain ⟨d, hd, _, _, hres⟩ := hres
  split at hres
  ·next ht =>
   simp only [oB, oS] at hres
   obtain ⟨X, hX, I, hI, rfl⟩ := hres
   cases hQ
  ·simp only [oS] at hres; subst hres; exact hq.elim
 ·next x i ho =>
  simp only [oD, oB, oP, oS, guard_some] at hres
  obtain ⟨d, hd, _, _, X, hX, rfl⟩ := hres
  cases hQ
 ·next t l ps ho =>
  simp only [oD, oB, oP, oS, guard_some] at hres
  obtain ⟨d, hd, _, _, e, he, s, hs, z, hz, L, hL, rfl⟩ := hres
  rw [bsOp_isQ] at hQ
  cases hQ
 ·next t ps ho =>
  simp only [oD, oB, oP, guard_some] at hres
  obtain ⟨d, hd, _, _, hres⟩ := hres
  split at hres
  ·next fs ht =>
   simp only [oB, oS] at hres
   obtain ⟨_, _, z, hz, L, hL, rfl⟩ := hres
   cases hQ
  ·simp only [oS] at hres; subst hres; exact hq.elim
 ·next c ho =>
  split at hres
  ·next f hc =>
   simp only [oD, oB, guard_some] at hres
   obtain ⟨_, _, _, hl, Xs, hXs, hres⟩ := hres
   split at hres
   ·split at hres
    ·next d x y hd =>
     simp only [oP, oS] at hres
     subst hres
     exact hq.elim
    ·cases hres
   split at hres
   ·split at hres
    ·next d x y hd =>
     simp only [oP, oS] at hres
     subst hres
     exact hq.elim
    ·cases hres
   split at hres
   ·split at hres
    ·next x r =>
     simp only [oP, oS] at hres
     subst hres
     exact hq.elim
    ·cases hres
   split at hres
   ·split at hres
    ·next d x hd =>
     simp only [oP, oS] at hres
     subst hres
     exact hq.elim
    ·cases hres
   split at hres
   ·simp only [oP, oS] at hres
    subst hres
    exact s_wcl h ho hc (by simpa using hl) hXs hq
   ·simp only [oP, oS] at hres
    subst hres
    cases hQ
  ·next x _ hc =>
   simp only [oD, oB, oP, oS, guard_some] at hres
   obtain ⟨_, _, _, hl, X, hX, Xs, hXs, rfl⟩ := hres
   cases wv with
   | yes => exact hq.elim
   | no => cases hQ
   | ap => cases hQ
  ·next hc =>
   simp only [oD, oB, guard_some] at hres
   obtain ⟨d, hd, _, _, hres⟩ := hres
   split at hres
   ·next x t ha hta =>
    have ha' : c.args = #[x] := by apply Array.ext'; simpa using ha
    have hta' : c.argTypes = #[t] := by apply Array.ext'; simpa using hta
    split at hres <;> simp only [oB, oP, oS] at hres
    ·obtain ⟨X, hX, rfl⟩ := hres
     cases hQ
    ·obtain ⟨X, hX, rfl⟩ := hres
     cases hQ
    ·subst hres; exact hq.elim
   ·cases hres
  ·next hc =>
   simp only [oD, oB, guard_some] at hres
   obtain ⟨d, hd, _, _, hres⟩ := hres
   split at hres
   ·next x y t u ha hta =>
    have ha' : c.args = #[x, y] := by apply Array.ext'; simpa using ha
    simp only [oB, oP, oS] at hres
    obtain ⟨X, hX, Y, hY, rfl⟩ := hres
    cases hQ
   ·cases hres
  ·next hc =>
   simp only [oD, oB, guard_some] at hres
   obtain ⟨d, hd, _, _, hres⟩ := hres
   split at hres
   ·next x y t u ha hta =>
    have ha' : c.args = #[x, y] := by apply Array.ext'; simpa using ha
    simp only [oB, oP, oS] at hres
    obtain ⟨X, hX, Y, hY, rfl⟩ := hres
    cases hQ
   ·cases hres
  ·next hc =>
   simp only [oD, oB, guard_some] at hres
   obtain ⟨d, hd, _, _, hres⟩ := hres
   split at hres
   ·next s x t u ha hta =>
    have ha' : c.args = #[s, x] := by apply Array.ext'; simpa using ha
    have hta' : c.argTypes = #[t, u] := by apply Array.ext'; simpa using hta
    split at hres <;> simp only [oB, oP, oS, guard_some] at hres
    ·obtain ⟨i, hi, _, htu, z, hz, X, hX, Y, hY, rfl⟩ := hres
     have htu : t = u := by simpa using htu
     subst htu
     cases wv with
     | yes => exact s_app h ho hc ha' hta' (by assumption) hi hz hX hY hd hq
     | no => exact s_app h ho hc ha' hta' (by assumption) hi hz hX hY hd hq
     | ap => cases hQ
    ·subst hres; exact hq.elim
   ·cases hres
  ·next hc =>
   simp only [oD, oB, guard_some] at hres
   obtain ⟨_, _, hres⟩ := hres
   split at hres
   ·next x y t u ha hta =>
    have ha' : c.args = #[x, y] := by apply Array.ext'; simpa using ha
    have hta' : c.argTypes = #[t, u] := by apply Array.ext'; simpa using hta
    split at hres <;> simp only [oB, oP, oS, guard_some] at hres
    ·obtain ⟨s, hs, _, htu, X, hX, Y, hY, rfl⟩ := hres
     have htu : t = u := by simpa using htu
     subst htu
     exact s_cpy h ho hc ha' hta' (by assumption) hs hX hY hq
    ·subst hres; exact hq.elim
   ·cases hres
  ·simp only [oP, oS] at hres; subst hres; exact hq.elim
 ·simp only [oP, oS] at hres; subst hres; exact hq.elim

def Post (n0 : Nat) (S0 M0 : Nat → Prop) (w0 : World) (n : Nat) (K : Exit → St → Prop) (e : Exit) (a : Act) (w : World) : Prop := ∃ st, st.n = n ∧ K e st ∧ Sat n0 S0 M0 w0 st a w

theorem setO_post {st : St} {us : List (Nat × U)} {d : Option Nat} {av : AV} {f : St → Prop} (hk : kq f st d av us) : (us = [] ∨ st.fresh us = true) ∧ f ((st.addUs us).setO d av) := by
 cases us with
 | nil => rw [addUs_nil]; exact ⟨.inl rfl, hk⟩
 | cons x us => exact ⟨.inr hk.1, hk.2⟩

theorem op_sound {r : ROp} {f : St → Prop} (hres : resOp P wv st.n o = some r) (hs : Sat n0 S0 M0 w0 st a w) (hd : ∀ i, o.dst = some i → i < st.n) (hq : vcOp P r st f) : o.wp P a w (EPost n0 S0 M0 w0 st.n f) Q' := by
 obtain ⟨g, hu, hv⟩ := hs.gh
 have h : At n0 S0 M0 w0 st o a w g := ⟨hs, hu, hv, hd⟩
 unfold vcOp at hq
 cases hQ : r.isQ with
 | true =>
  rw [hQ, if_pos rfl] at hq
  obtain ⟨h1, h2⟩ := q_sound (Q' := Q') hres hQ rfl h hq
  refine Oper.wp_mono ?_ h1
  rintro a' w' ⟨av, us, hk, hS⟩
  obtain ⟨h3, h4⟩ := setO_post hk
  rw [h2] at h4
  exact ⟨_, by cases o.dst <;> rfl, h4, hS h3⟩
 | false =>
  rw [hQ] at hq
  exact e_sound hres hQ h (by simpa using hq)

theorem yielded_eq {ops : Array Oper} {tm : Array Value} {j t : Nat} {p : Oper} {c : Bool} (hp : ops[j]? = some p) (hd : p.dst = some t) (hv : tm.getD t undef = .bool c) : yielded ops tm j = some c := by
 have : tm[t]? = some (.bool c) := by
  rw [Array.getD_eq_getD_getElem?] at hv
  cases h : tm[t]? with
  | none => rw [h] at hv; cases hv
  | some x => rw [h] at hv; simpa using hv
 simp [yielded, hp, hd, this]

theorem undef_rep {h : Heap} {us : List (Nat × U)} {g : Gh} : VRep h us g (.tup []) undef := by
 simp only [VRep]
 exact ⟨#[], rfl, by simp [VRepL]⟩
theorem undef_val {h : Heap} {us : List (Nat × U)} {g : Gh} {v : Value} (hr : VRep h us g (.tup []) v) : v = undef := by
 simp only [VRep] at hr
 obtain ⟨xs, rfl, h2⟩ := hr
 simp only [VRepL] at h2
 have : xs = #[] := by apply Array.ext'; simpa using h2
 rw [this]
 rfl
theorem yielded_undef {ops : Array Oper} {tm : Array Value} {j t : Nat} {p : Oper} (hp : ops[j]? = some p) (hd : p.dst = some t) (hv : tm.getD t undef = undef) : yielded ops tm j = none := by
 unfold yielded
 rw [hp, Option.bind_some, hd, Option.bind_some]
 cases h : tm[t]? with
 | none => rfl
 | some v =>
  have : v = undef := by rw [← hv, Array.getD_eq_getD_getElem?, h]; rfl
  rw [this]
  rfl

theorem ro_sound {ops : Array Oper} {R : RO} {f : St → Prop} {st : St} {o : Oper} {a : Act} {w : World} {Q' : Exit → Act → World → Prop} (hres : resRO P wv st.n ops o = some R) (hs : Sat n0 S0 M0 w0 st a w)
  (hq : match R.g with | none => vcOp P R.op st f | some (t, b) => grdK (st.get t) b (vcOp P R.op st f) (f (st.setO R.op.dst (.tup [])))) :
  (Region.wanted o (yielded ops a.tmps) = true → o.wp P a w (EPost n0 S0 M0 w0 st.n f) Q') ∧ (Region.wanted o (yielded ops a.tmps) = false → EPost n0 S0 M0 w0 st.n f (a.put o.dst undef) w) := by
 unfold resRO at hres
 simp only [oD, oB, guard_some] at hres
 obtain ⟨r, hr, _, h1, _, h2, hres⟩ := hres
 have hd : ∀ i, o.dst = some i → i < st.n := by
  intro i hi
  rw [hi] at h2
  simpa using h2
 split at hres
 ·next hg =>
  simp only [oP, oS] at hres
  subst hres
  simp only at hq
  refine ⟨fun _ => op_sound hr hs hd hq, fun hw => ?_⟩
  simp [Region.wanted, hg] at hw
 ·next j b hg =>
  simp only [oB, oP, oS] at hres
  obtain ⟨p, hp, t, ht, rfl⟩ := hres
  simp only at hq
  unfold grdK at hq
  split at hq
  ·next t1 c hc =>
   obtain ⟨g, hu, hv⟩ := hs.gh
   have hvt := hv t
   have hc' : lk st.env t = .im t1 (.sc (.bool c)) := hc
   rw [hc'] at hvt
   have hval := sc_val hvt
   have hy := yielded_eq (ops := ops) hp ht hval
   have hw : Region.wanted o (yielded ops a.tmps) = (some c == some b) := by simp [Region.wanted, hg, hy]
   rw [hw]
   refine ⟨fun e => op_sound hr hs hd (hq.1 (by simpa using e)), fun e => ?_⟩
   have hcb : c = !b := by cases c <;> cases b <;> simp_all
   have := hq.2 hcb
   rw [h1] at this
   exact ⟨_, by cases o.dst <;> rfl, this, sat_set hs hu hv hd undef_rep⟩
  ·next hc =>
   obtain ⟨g, hu, hv⟩ := hs.gh
   have hvt := hv t
   have hc' : lk st.env t = .tup [] := hc
   rw [hc'] at hvt
   have hw : Region.wanted o (yielded ops a.tmps) = false := by simp [Region.wanted, hg, yielded_undef (ops := ops) hp ht (undef_val hvt)]
   rw [hw]
   refine ⟨fun e => (by cases e), fun _ => ?_⟩
   rw [h1] at hq
   exact ⟨_, by cases o.dst <;> rfl, hq, sat_set hs hu hv hd undef_rep⟩
  ·exact hq.elim

theorem wpOps_sound {ops : Array Oper} {K : Exit → St → Prop} : ∀ (l : List Oper) (R : List RO) (i : Nat) (st : St) (a : Act) (w : World), (∀ j, l[j]? = ops[i + j]?) → l.mapM (resRO P wv st.n ops) = some R → Sat n0 S0 M0 w0 st a w →
  vcOps P R st K → wpOps P ops (Post n0 S0 M0 w0 st.n K) (List.range' i l.length) a w
 | [], R, i, st, a, w, _, hR, hs, hq => by
  simp at hR
  subst hR
  exact ⟨st, rfl, hq, hs⟩
 | o :: l, R, i, st, a, w, hl, hR, hs, hq => by
  simp only [List.mapM_cons, oD, oB, oP, oS] at hR
  obtain ⟨r, hr, R', hR', rfl⟩ := hR
  have h0 : ops[i]? = some o := by simpa using (hl 0).symm
  have hl' : ∀ j, l[j]? = ops[i + 1 + j]? := fun j => by have := hl (j + 1); simpa [Nat.add_assoc, Nat.add_comm 1 j] using this
  simp only [List.length_cons, List.range'_succ, wpOps, h0]
  have hq' : match r.g with | none => vcOp P r.op st (kops P R' K) | some (t, b) => grdK (st.get t) b (vcOp P r.op st (kops P R' K)) (kops P R' K (st.setO r.op.dst (.tup []))) := by
   obtain ⟨g, op⟩ := r
   cases g with
   | none => exact hq
   | some x => exact hq
  have key := ro_sound (Q' := Post n0 S0 M0 w0 st.n K) hr hs hq'
  have hn : ∀ {a' : Act} {w' : World}, EPost n0 S0 M0 w0 st.n (kops P R' K) a' w' → wpOps P ops (Post n0 S0 M0 w0 st.n K) (List.range' (i + 1) l.length) a' w' := by
   rintro a' w' ⟨st', hnn, hf, hs'⟩
   rw [← hnn]
   exact wpOps_sound l R' (i + 1) st' a' w' hl' (by rw [hnn]; exact hR') hs' hf
  cases hw : Region.wanted o (yielded ops a.tmps) with
  | true =>
   simp only [if_true]
   exact .inl (Oper.wp_mono (fun a' w' h => hn h) (key.1 hw))
  | false =>
   simp only [bF, if_false]
   exact hn (key.2 hw)

end Go.Ax
namespace Go.Ax

variable {P : Program}

theorem qOp_det {r : ROp} {ev : X → AV} {un : Nat → Option U} {k : KQ} (h : qOp P r ev un k) : ∃ av us, k av us ∧ qOp P r ev un (fun v u => v = av ∧ u = us) := by
 cases r <;> simp only [qOp] at h ⊢
 case mv => exact ⟨_, _, h, rfl, rfl⟩
 case pick d c x y =>
  unfold pickK at h ⊢
  split at h
  ·next t b e =>
   simp only
   cases b with
   | true => exact ⟨_, _, h.1 rfl, fun _ => ⟨rfl, rfl⟩, by simp⟩
   | false => exact ⟨_, _, h.2 rfl, by simp, fun _ => ⟨rfl, rfl⟩⟩
  ·exact h.elim
 case box => unfold boxK at h ⊢; split at h <;> first | exact h.elim | exact ⟨_, _, h.2, h.1, rfl, rfl⟩
 case zer => exact ⟨_, _, h.2, h.1, rfl, rfl⟩
 case ld =>
  unfold ldK at h ⊢
  split at h
  ·exact ⟨_, _, h.2, h.1, rfl, rfl⟩
  ·exact ⟨_, _, h.2, h.1, rfl, rfl⟩
  ·unfold ldW at h ⊢
   split at h
   ·exact ⟨_, _, h.2, h.1, rfl, rfl⟩
   ·exact h.elim
  ·unfold ldQ at h ⊢
   split at h
   ·unfold inLd at h ⊢
    split at h
    ·exact ⟨_, _, h.2, h.1, rfl, rfl⟩
    ·exact h.elim
   ·exact h.elim
  ·unfold ldB at h ⊢
   split at h
   ·obtain ⟨h0, h⟩ := h
    unfold ldV at h ⊢
    split at h
    ·next hc => simp only [if_pos hc]; exact ⟨_, _, h, h0, rfl, rfl⟩
    ·next hc =>
     simp only [if_neg hc]
     unfold ldP at h ⊢
     split at h
     ·obtain ⟨h1, h⟩ := h
      split at h
      ·next ha => simp only [if_pos ha]; exact ⟨_, _, h, h0, h1, rfl, rfl⟩
      ·next ha => simp only [if_neg ha]; exact ⟨_, _, h, h0, h1, rfl, rfl⟩
     ·exact h.elim
   ·exact h.elim
  ·exact h.elim
 case nck => unfold nckK at h ⊢; split at h <;> first | exact h.elim | exact ⟨_, _, h, rfl, rfl⟩
 case bin =>
  unfold binK binA at h ⊢
  split at h
  ·simp only
   unfold binV at h ⊢
   split at h
   ·simp only
    split at h <;> (try simp only) <;> first | exact ⟨_, _, h.2.2, h.1, h.2.1, rfl, rfl⟩ | exact ⟨_, _, h.2, h.1, rfl, rfl⟩
   ·simp only
    split at h <;> (try simp only) <;> first | exact ⟨_, _, h.2, h.1, rfl, rfl⟩ | exact ⟨_, _, h, rfl, rfl⟩ | exact h.elim
   ·exact h.elim
  ·exact h.elim
 case beq => unfold beqK at h ⊢; split at h <;> first | exact h.elim | exact ⟨_, _, h, rfl, rfl⟩
 case snil => unfold snilK at h ⊢; split at h <;> first | exact h.elim | exact ⟨_, _, h, rfl, rfl⟩
 case ceq =>
  unfold ceqK at h ⊢
  split at h
  ·obtain ⟨r, h1, h2⟩ := ceqL_det h.2
   exact ⟨_, _, h1, h.1, h2 _ ⟨rfl, rfl⟩⟩
  ·exact h.elim
 case un => unfold unK at h ⊢; split at h <;> first | exact h.elim | exact ⟨_, _, h, rfl, rfl⟩
 case cvt => unfold cvtK at h ⊢; split at h <;> first | exact h.elim | exact ⟨_, _, h, rfl, rfl⟩
 case mk => unfold mkK at h ⊢; split at h <;> first | exact h.elim | exact ⟨_, _, h.2, h.1, rfl, rfl⟩
 case slc =>
  unfold slcK at h ⊢
  split at h
  ·obtain ⟨h1, h⟩ := h
   unfold slcL at h ⊢
   split at h
   ·exact ⟨_, _, h.2, h1, h.1, rfl, rfl⟩
   ·exact h.elim
  ·unfold slcM at h ⊢
   split at h
   ·obtain ⟨h1, h⟩ := h
    unfold slcR at h ⊢
    split at h
    ·exact ⟨_, _, h.2, h1, h.1, rfl, rfl⟩
    ·exact h.elim
   ·exact h.elim
  ·unfold slcC at h ⊢
   split at h
   ·unfold slcD at h ⊢
    split at h
    ·obtain ⟨h1, h⟩ := h
     unfold slcR at h ⊢
     split at h
     ·exact ⟨_, _, h.2, h1, h.1, rfl, rfl⟩
     ·exact h.elim
    ·exact h.elim
   ·exact h.elim
  ·exact h.elim
 case fa =>
  unfold faK at h ⊢
  split at h
  ·exact ⟨_, _, h.2, h.1, rfl, rfl⟩
  ·exact ⟨_, _, h.2, h.1, rfl, rfl⟩
  ·unfold faW at h ⊢
   split at h
   ·exact ⟨_, _, h.2, h.1, rfl, rfl⟩
   ·exact h.elim
  ·exact ⟨_, _, h.2, h.1, rfl, rfl⟩
  ·exact ⟨_, _, h, rfl, rfl⟩
  ·exact h.elim
 case ia =>
  unfold iaK at h ⊢
  split at h
  ·try simp only
   split at h
   ·obtain ⟨h1, h⟩ := h
    unfold iaW at h ⊢
    split at h
    ·exact ⟨_, _, h.2, h1, h.1, rfl, rfl⟩
    ·exact h.elim
   ·obtain ⟨h1, h⟩ := h
    unfold iaW at h ⊢
    split at h
    ·exact ⟨_, _, h.2, h1, h.1, rfl, rfl⟩
    ·exact h.elim
   ·unfold iaC at h ⊢
    split at h
    ·unfold iaI at h ⊢
     split at h
     ·exact ⟨_, _, h.2, h.1, rfl, rfl⟩
     ·exact h.elim
    ·exact h.elim
   ·unfold iaD at h ⊢
    split at h
    ·exact ⟨_, _, h.2, h.1, rfl, rfl⟩
    ·exact ⟨_, _, h.2, h.1, rfl, rfl⟩
    ·exact h.elim
  ·exact h.elim
 case len =>
  unfold lenK at h ⊢
  split at h
  ·exact ⟨_, _, h, rfl, rfl⟩
  ·exact ⟨_, _, h, rfl, rfl⟩
  ·exact ⟨_, _, h, rfl, rfl⟩
  ·unfold lenD at h ⊢
   split at h
   ·exact ⟨_, _, h, rfl, rfl⟩
   ·exact ⟨_, _, h, rfl, rfl⟩
   ·exact h.elim
 case call =>
  rcases h with ⟨ds, es, r, h1, h2, h3, h4⟩ | ⟨T, h1, h2, h3⟩ | ⟨h0, t, kk, B, C, h1, h2, h3, h4, h5⟩
  ·exact ⟨_, _, h4, .inl ⟨ds, es, r, h1, h2, h3, rfl, rfl⟩⟩
  ·exact ⟨_, _, h3, .inr (.inl ⟨T, h1, h2, rfl, rfl⟩)⟩
  ·exact ⟨_, _, h5, .inr (.inr ⟨h0, t, kk, B, C, h1, h2, h3, h4, rfl, rfl⟩)⟩
 case calv =>
  unfold calvK at h ⊢
  split at h
  ·rcases h with ⟨ds, es, r, h1, h2, h3, h4⟩ | ⟨T, h1, h2, h3⟩ | ⟨h0, t, kk, B, C, h1, h2, h3, h4, h5⟩
   ·exact ⟨_, _, h4, .inl ⟨ds, es, r, h1, h2, h3, rfl, rfl⟩⟩
   ·exact ⟨_, _, h3, .inr (.inl ⟨T, h1, h2, rfl, rfl⟩)⟩
   ·exact ⟨_, _, h5, .inr (.inr ⟨h0, t, kk, B, C, h1, h2, h3, h4, rfl, rfl⟩)⟩
  ·rcases h with ⟨ds, es, r, h1, h2, h3, h4⟩ | ⟨T, h1, h2, h3⟩ | ⟨h0, t, kk, B, C, h1, h2, h3, h4, h5⟩
   ·exact ⟨_, _, h4, .inl ⟨ds, es, r, h1, h2, h3, rfl, rfl⟩⟩
   ·exact ⟨_, _, h3, .inr (.inl ⟨T, h1, h2, rfl, rfl⟩)⟩
   ·exact ⟨_, _, h5, .inr (.inr ⟨h0, t, kk, B, C, h1, h2, h3, h4, rfl, rfl⟩)⟩
  ·rcases h with ⟨ds, es, r, h1, h2, h3, h4⟩ | ⟨T, h1, h2, h3⟩ | ⟨h0, t, kk, B, C, h1, h2, h3, h4, h5⟩
   ·exact ⟨_, _, h4, .inl ⟨ds, es, r, h1, h2, h3, rfl, rfl⟩⟩
   ·exact ⟨_, _, h3, .inr (.inl ⟨T, h1, h2, rfl, rfl⟩)⟩
   ·exact ⟨_, _, h5, .inr (.inr ⟨h0, t, kk, B, C, h1, h2, h3, h4, rfl, rfl⟩)⟩
  ·exact h.elim
 case ext => unfold extK at h ⊢; split at h <;> first | exact h.elim | exact ⟨_, _, h.2, h.1, rfl, rfl⟩
 case bs =>
  unfold bsK at h ⊢
  split at h
  ·next e => simp only [e, if_true]; exact ⟨_, _, h.2, h.1, rfl, rfl⟩
  ·next e => simp only [e, if_false]; exact ⟨_, _, h.2, h.1, rfl, rfl⟩
 case bld => unfold bldK at h ⊢; split at h <;> first | exact h.elim | exact ⟨_, _, h.2, h.1, rfl, rfl⟩
 case mkf => exact ⟨_, _, h, rfl, rfl⟩
 case bse => exact ⟨_, _, h.2, h.1, rfl, rfl⟩
 case zsb => exact ⟨_, _, h.2, h.1, rfl, rfl⟩

mutual
def AV.ids : AV → List Nat
 | .tr k => [k]
 | .pw i _ _ => [i]
 | .cw i _ _ _ _ => [i]
 | .sm i _ _ => [i]
 | .vb i _ => [i]
 | .pb i _ => [i]
 | .ps i => [i]
 | .sg vs => AV.idsL vs
 | .cl _ vs => AV.idsL vs
 | .pq i _ _ _ _ _ => [i]
 | .qs i _ _ _ _ _ => [i]
 | .ss i _ _ => [i]
 | _ => []
def AV.idsL : List AV → List Nat
 | [] => []
 | v :: vs => v.ids ++ AV.idsL vs
end

theorem size_local {un un' : Nat → Option U} {a : AV} (hu : ∀ i u, i ∈ a.ids → un i = some u → un' i = some u) (h : AV.size un a ≠ 0) : AV.size un' a = AV.size un a := by
 cases a with
 | tr k =>
  simp only [AV.size] at h ⊢
  split at h
  ·next d hd => rw [hu k _ (by simp [AV.ids]) hd]
  ·exact absurd rfl h
 | _ => rfl
theorem ids_explode : ∀ {vs : List AV} {i : Nat}, i ∈ AV.idsL (explode vs) → i ∈ AV.idsL vs
 | [], _, h => h
 | v :: vs, i, h => by
  have dflt : explode (v :: vs) = v :: explode vs → i ∈ AV.idsL (v :: vs) := by
   intro e
   rw [e] at h
   simp only [AV.idsL, List.mem_append] at h ⊢
   exact h.imp id ids_explode
  cases v with
  | im t d =>
   cases d with
   | ag ds =>
    simp only [explode] at h
    have key : ∀ ds : List D, i ∈ AV.idsL (ds.map (.im t) ++ explode vs) → i ∈ AV.idsL (explode vs) := by
     intro ds
     induction ds with
     | nil => exact id
     | cons d ds ih => intro h; simp only [lC, List.cons_append, AV.idsL, AV.ids, List.nil_append] at h; exact ih h
    simp only [AV.idsL, List.mem_append]
    exact .inr (ids_explode (key ds h))
   | _ => exact dflt rfl
  | _ => exact dflt rfl
theorem ids_pieces {a : AV} {i : Nat} (h : i ∈ (pieces a).ids) : i ∈ a.ids := by
 cases a with
 | sg vs => simp only [pieces, AV.ids] at h ⊢; exact ids_explode h
 | _ => exact h
theorem itemOk_local {un un' : Nat → Option U} {sz : Nat} {a : AV} (hu : ∀ i u, i ∈ a.ids → un i = some u → un' i = some u) (h : itemOk un sz a = true) : itemOk un' sz a = true := by
 cases a with
 | tr k =>
  simp only [itemOk] at h ⊢
  split at h
  ·next d hd => rw [hu k _ (by simp [AV.ids]) hd]; exact h
  ·cases h
 | sg vs =>
  simp only [itemOk, bA] at h ⊢
  have key : ∀ {vs : List AV}, (∀ i u, i ∈ AV.idsL vs → un i = some u → un' i = some u) → vs.all (fun a => AV.size un a != 0) = true → vs.map (AV.size un') = vs.map (AV.size un) := by
   intro vs
   induction vs with
   | nil => intro _ _; rfl
   | cons a as ih =>
    intro hu ha
    simp only [List.all_cons, bA, bne_iff_ne, ne_eq] at ha
    simp only [lC]
    rw [size_local (fun i u hi => hu i u (by simp [AV.idsL, hi])) ha.1, ih (fun i u hi => hu i u (by simp [AV.idsL, hi])) ha.2]
  have e := key (fun i u hi => hu i u (by simpa [AV.ids] using hi)) h.1
  have e2 : ∀ f : AV → Nat, vs.all (fun a => f a != 0) = (vs.map f).all (fun n => n != 0) := fun f => by simp [List.all_map, Function.comp_def]
  rw [e2, e, ← e2]
  exact h
 | im t d => cases t <;> exact h
 | _ => exact h
theorem one_local {un un' : Nat → Option U} {a : AV} (hu : ∀ i u, i ∈ a.ids → un i = some u → un' i = some u) (h : AV.one un a = true) : AV.one un' a = true := by
 cases a with
 | tr k =>
  simp only [AV.one] at h ⊢
  split at h
  ·next d hd => rw [hu k _ (by simp [AV.ids]) hd]; exact h
  ·cases h
 | _ => exact h
theorem aggV_local {un un' : Nat → Option U} {a : AV} (hu : ∀ i u, i ∈ a.ids → un i = some u → un' i = some u) (h : AV.aggV un a = true) : AV.aggV un' a = true := by
 cases a with
 | tr k =>
  simp only [AV.aggV] at h ⊢
  split at h
  ·next d hd => rw [hu k _ (by simp [AV.ids]) hd]; exact h
  ·cases h
 | im t d => cases t <;> exact h
 | _ => exact h
theorem ag3_local {un un' : Nat → Option U} {a : AV} (hu : ∀ i u, i ∈ a.ids → un i = some u → un' i = some u) (h : (AV.aggV un a && itemOk un 3 a) = true) : (AV.aggV un' a && itemOk un' 3 a) = true := by
 rw [bA] at h ⊢
 exact ⟨aggV_local hu h.1, itemOk_local hu h.2⟩
theorem arg_local0 {un un' : Nat → Option U} {a : AV} (hne : (∀ f vs, a ≠ .cl f vs) ∧ ∀ vs, a ≠ .sg vs) {d : D} (h1 : a.arg un = some d) (hu0 : ∀ i u, i ∈ a.ids → un i = some u → un' i = some u) : a.arg un' = some d := by
 unfold AV.arg at h1 ⊢
 split at h1 <;> (try simp only [AV.ids, List.mem_singleton] at hu0) <;> (try exact h1) <;> (try exact absurd rfl (hne.1 _ _)) <;> (try exact absurd rfl (hne.2 _)) <;> (try simp only) <;>
 ·split at h1
  ·next hh => rw [hu0 _ _ rfl hh]; exact h1
  ·cases h1
mutual
theorem arg_local {un un' : Nat → Option U} : ∀ {a : AV} {d : D}, a.arg un = some d → (∀ i u, i ∈ a.ids → un i = some u → un' i = some u) → a.arg un' = some d
 | .cl f vs, d, h, hu => by
  simp only [AV.arg] at h ⊢
  split at h
  ·next ds hds => rw [argsOf_local hds (fun i u hi => hu i u (by simpa [AV.ids] using hi))]; exact h
  ·cases h
 | .im _ _, _, h, hu => arg_local0 (by simp) h hu
 | .tr _, _, h, hu => arg_local0 (by simp) h hu
 | .pw _ _ _, _, h, hu => arg_local0 (by simp) h hu
 | .cw _ _ _ _ _, _, h, hu => arg_local0 (by simp) h hu
 | .sm _ _ _, _, h, hu => arg_local0 (by simp) h hu
 | .vb _ _, _, h, hu => arg_local0 (by simp) h hu
 | .pb _ _, _, h, hu => arg_local0 (by simp) h hu
 | .ps _, _, h, hu => arg_local0 (by simp) h hu
 | .sg vs, d, h, hu => by
  simp only [AV.arg] at h ⊢
  split at h
  ·next ds hds => rw [argsOf_local hds (fun i u hi => hu i u (by simpa [AV.ids] using hi))]; exact h
  ·cases h
 | .tup _, _, h, hu => arg_local0 (by simp) h hu
 | .any, _, h, hu => arg_local0 (by simp) h hu
 | .pq _ _ _ _ _ _, _, h, hu => arg_local0 (by simp) h hu
 | .qs _ _ _ _ _ _, _, h, hu => arg_local0 (by simp) h hu
 | .ss _ _ _, _, h, hu => arg_local0 (by simp) h hu
 | .z0 _ _, _, h, hu => arg_local0 (by simp) h hu
theorem argsOf_local {un un' : Nat → Option U} : ∀ {l : List AV} {ds : List D}, argsOf un l = some ds → (∀ i u, i ∈ AV.idsL l → un i = some u → un' i = some u) → argsOf un' l = some ds
 | [], _, h, _ => by simpa [argsOf] using h
 | a :: l, ds, h, hu => by
  simp only [argsOf] at h ⊢
  split at h
  ·next d ds' h1 h2 =>
   rw [arg_local h1 (fun i u hi => hu i u (by simp [AV.idsL, hi])), argsOf_local h2 (fun i u hi => hu i u (by simp [AV.idsL, hi]))]
   exact h
  ·cases h
end
theorem mem_idsL {l : List AV} {i : Nat} : i ∈ AV.idsL l ↔ ∃ a ∈ l, i ∈ a.ids := by
 induction l with
 | nil => simp [AV.idsL]
 | cons a l ih => simp [AV.idsL, ih]

theorem den_local {un un' : Nat → Option U} {a : AV} {q : Option Nat × D} (h : a.den un = some q) (hu : ∀ i u, i ∈ a.ids → un i = some u → un' i = some u) : a.den un' = some q := by
 unfold AV.den at h ⊢
 split at h <;> (try simp only [AV.ids, List.mem_singleton] at hu) <;> (try exact h) <;> (try simp only) <;>
 ·split at h
  ·next hh => rw [hu _ _ rfl hh]; exact h
  ·cases h

theorem qOp_local {r : ROp} {ev ev' : X → AV} {un un' : Nat → Option U} {k : KQ} (h : qOp P r ev un k) (he : ∀ x ∈ r.xs, ev' x = ev x) (hu : ∀ x ∈ r.xs, ∀ i u, i ∈ (ev x).ids → un i = some u → un' i = some u) : qOp P r ev' un' k := by
 cases r <;> simp only [qOp, ROp.xs, List.mem_cons, List.not_mem_nil, or_false, forall_eq, forall_eq_or_imp] at h he hu ⊢
 case mv => rw [he]; exact h
 case pick => rw [he.1, he.2.1, he.2.2]; exact h
 case box =>
  rw [he]
  unfold boxK at h ⊢
  split at h
  ·exact h
  ·exact ⟨⟨h.1.1, h.1.2.1, itemOk_local (fun i u hi => hu i u (ids_pieces hi)) h.1.2.2⟩, h.2⟩
 case zer => exact h
 case ld =>
  rw [he]
  unfold ldK at h ⊢
  split at h
  ·exact h
  ·exact h
  ·next e =>
   simp only [e, AV.ids, List.mem_singleton] at hu
   unfold ldW at h ⊢
   split at h
   ·next hh => rw [hu _ _ rfl hh]; exact h
   ·exact h.elim
  ·next e =>
   simp only [e, AV.ids, List.mem_singleton] at hu
   unfold ldQ at h ⊢
   split at h
   ·next hh => rw [hu _ _ rfl hh]; exact h
   ·exact h.elim
  ·next e =>
   simp only [e, AV.ids, List.mem_singleton] at hu
   unfold ldB at h ⊢
   split at h
   ·next hh => rw [hu _ _ rfl hh]; exact h
   ·exact h.elim
  ·exact h.elim
 case nck => rw [he]; exact h
 case bin => rw [he.1, he.2]; exact h
 case beq => rw [he.1, he.2]; exact h
 case snil => rw [he.1, he.2]; exact h
 case ceq => rw [he.1, he.2]; exact h
 case un => rw [he]; exact h
 case cvt => rw [he]; exact h
 case mk => rw [he.1, he.2]; exact h
 case slc d sz x lo hi =>
  have e1 : lo.map ev' = lo.map ev := by cases lo <;> simp_all
  have e2 : hi.map ev' = hi.map ev := by cases hi <;> simp_all
  unfold slcK at h ⊢
  rw [e1, e2, he.1]
  split at h
  ·exact h
  ·next e =>
   simp only [e, AV.ids, List.mem_singleton] at hu
   unfold slcM at h ⊢
   split at h
   ·next hh => rw [hu.1 _ _ rfl hh]; exact h
   ·exact h.elim
  ·next e =>
   simp only [e, AV.ids, List.mem_singleton] at hu
   unfold slcC at h ⊢
   split at h
   ·next hh => rw [hu.1 _ _ rfl hh]; exact h
   ·exact h.elim
  ·exact h.elim
 case fa =>
  rw [he]
  unfold faK at h ⊢
  split at h
  ·exact h
  ·exact h
  ·next e =>
   simp only [e, AV.ids, List.mem_singleton] at hu
   unfold faW at h ⊢
   split at h
   ·next hh => rw [hu _ _ rfl hh]; exact h
   ·exact h.elim
  ·exact h
  ·exact h
  ·exact h.elim
 case ia =>
  rw [he.1, he.2]
  unfold iaK at h ⊢
  split at h
  ·try simp only
   split at h
   ·next e =>
    simp only [e, AV.ids, List.mem_singleton] at hu
    obtain ⟨h1, h⟩ := h
    refine ⟨h1, ?_⟩
    unfold iaW at h ⊢
    split at h
    ·next hh => rw [hu.1 _ _ rfl hh]; exact h
    ·exact h.elim
   ·next e =>
    simp only [e, AV.ids, List.mem_singleton] at hu
    obtain ⟨h1, h⟩ := h
    refine ⟨h1, ?_⟩
    unfold iaW at h ⊢
    split at h
    ·next hh => rw [hu.1 _ _ rfl hh]; exact h
    ·exact h.elim
   ·next e =>
    simp only [e, AV.ids, List.mem_singleton] at hu
    unfold iaC at h ⊢
    split at h
    ·next hh => rw [hu.1 _ _ rfl hh]; exact h
    ·exact h.elim
   ·unfold iaD at h ⊢
    split at h
    ·next hd => rw [den_local hd hu.1]; exact h
    ·next hd => rw [den_local hd hu.1]; exact h
    ·exact h.elim
  ·exact h.elim
 case len =>
  rw [he]
  unfold lenK at h ⊢
  split at h
  ·exact h
  ·exact h
  ·exact h
  ·unfold lenD at h ⊢
   split at h
   ·next hd => rw [den_local hd hu]; exact h
   ·next hd => rw [den_local hd hu]; exact h
   ·exact h.elim
 case call d f args =>
  have e1 : args.map ev' = args.map ev := List.map_congr_left he
  rw [e1]
  rcases h with ⟨ds, es, r, h1, h2, h3, h4⟩ | ⟨T, h1, h2, h3⟩ | ⟨h0, t, kk, B, C, h1, h2, h3, h4, h5⟩
  ·refine .inl ⟨ds, es, r, argsOf_local h1 ?_, h2, h3, h4⟩
   intro i u hi
   obtain ⟨a, ha, hia⟩ := mem_idsL.1 hi
   obtain ⟨x, hx, rfl⟩ := List.mem_map.1 ha
   exact hu x hx i u hia
  ·refine .inr (.inl ⟨T, h1, List.all_eq_true.2 fun a ha => ?_, h3⟩)
   obtain ⟨x, hx, rfl⟩ := List.mem_map.1 ha
   exact one_local (hu x hx) (List.all_eq_true.1 h2 _ ha)
  ·have hall : ∀ a ∈ args.map ev, ∀ i u, i ∈ a.ids → un i = some u → un' i = some u := by
    intro a ha i u hia
    obtain ⟨x, hx, rfl⟩ := List.mem_map.1 ha
    exact hu x hx i u hia
   exact .inr (.inr ⟨h0, t, kk, B, C, h1, h2, ag3_local (hall B (by simp [h1])) h3, ag3_local (hall C (by simp [h1])) h4, h5⟩)
 case calv d x args =>
  have e1 : args.map ev' = args.map ev := List.map_congr_left fun y hy => he.2 y hy
  rw [e1, he.1]
  have go : ∀ vs : List AV, (∀ i u, i ∈ AV.idsL vs → un i = some u → un' i = some u) → ∀ {g : Nat}, callQ P d g (args.map ev ++ vs) un k → callQ P d g (args.map ev ++ vs) un' k := by
   intro vs hvs g h
   have hall : ∀ a ∈ args.map ev ++ vs, ∀ i u, i ∈ a.ids → un i = some u → un' i = some u := by
    intro a ha i u hia
    rcases List.mem_append.1 ha with ha | ha
    ·obtain ⟨x, hx, rfl⟩ := List.mem_map.1 ha
     exact hu.2 x hx i u hia
    ·exact hvs i u (mem_idsL.2 ⟨a, ha, hia⟩)
   rcases h with ⟨ds, es, r, h1, h2, h3, h4⟩ | ⟨T, h1, h2, h3⟩ | ⟨h0, t, kk, B, C, h1, h2, h3, h4, h5⟩
   ·refine .inl ⟨ds, es, r, argsOf_local h1 ?_, h2, h3, h4⟩
    intro i u hi
    obtain ⟨a, ha, hia⟩ := mem_idsL.1 hi
    exact hall a ha i u hia
   ·exact .inr (.inl ⟨T, h1, List.all_eq_true.2 fun a ha => one_local (hall a ha) (List.all_eq_true.1 h2 _ ha), h3⟩)
   ·exact .inr (.inr ⟨h0, t, kk, B, C, h1, h2, ag3_local (hall B (by simp [h1])) h3, ag3_local (hall C (by simp [h1])) h4, h5⟩)
  unfold calvK at h ⊢
  split at h
  ·have := go [] (by simp [AV.idsL]) (by simpa using h)
   simpa using this
  ·next t f ds e =>
   refine go _ ?_ h
   intro i u hi
   obtain ⟨a, ha, hia⟩ := mem_idsL.1 hi
   obtain ⟨d', _, rfl⟩ := List.mem_map.1 ha
   simp [AV.ids] at hia
  ·next f vs e =>
   refine go _ ?_ h
   intro i u hi
   exact hu.1 i u (by rw [e]; simpa [AV.ids] using hi)
  ·exact h.elim
 case ext => rw [he]; exact h
 case bs d sz z len ps =>
  have e1 : (ps.map fun p => (p.1, ev' p.2)) = ps.map fun p => (p.1, ev p.2) := List.map_congr_left fun p hp => by rw [he p.2 (List.mem_map.2 ⟨p, hp, rfl⟩)]
  rw [e1]
  unfold bsK at h ⊢
  split
  ·next e => simpa [e] using h
  ·next e =>
   simp only [e, if_false] at h
   refine ⟨⟨h.1.1, h.1.2.1, h.1.2.2.1, h.1.2.2.2.1, ?_⟩, h.2⟩
   have h3 := h.1.2.2.2.2
   rw [List.all_eq_true] at h3 ⊢
   intro a ha
   have := h3 a ha
   simp only [List.map_map, List.mem_map, Function.comp] at ha
   obtain ⟨p, hp, rfl⟩ := ha
   exact itemOk_local (hu p.2 (List.mem_map.2 ⟨p, hp, rfl⟩)) this
 case bld d z ps =>
  have e1 : (ps.map fun p => (p.1, p.2.1, ev' p.2.2)) = ps.map fun p => (p.1, p.2.1, ev p.2.2) := List.map_congr_left fun p hp => by rw [he p.2.2 (List.mem_map.2 ⟨p, hp, rfl⟩)]
  rw [e1]
  unfold bldK at h ⊢
  split at h
  ·refine ⟨⟨?_, h.1.2⟩, h.2⟩
   have h3 := h.1.1
   rw [List.all_eq_true] at h3 ⊢
   intro a ha
   have := h3 a ha
   simp only [List.mem_map] at ha
   obtain ⟨p, hp, rfl⟩ := ha
   simp only [bA, beq_iff_eq, bne_iff_ne, ne_eq] at this ⊢
   refine ⟨?_, this.2⟩
   have h4 := this.1
   have h5 := hu p.2.2 (List.mem_map.2 ⟨p, hp, rfl⟩)
   generalize ev p.2.2 = av at h4 h5
   unfold AV.size at h4 ⊢
   split at h4 <;> (try exact h4) <;> (try simp only)
   split at h4
   ·next hh => rw [h5 _ _ (by simp [AV.ids]) hh]; exact h4
   ·exact absurd h4.symm this.2
  ·exact h.elim

 case mkf d f xs =>
  have e1 : xs.map ev' = xs.map ev := List.map_congr_left he
  rw [e1]; exact h
 case bse => exact h
 case zsb => exact h

end Go.Ax
namespace Go.Ax

variable {P : Program} {n0 : Nat} {S0 M0 : Nat → Prop} {w0 : World}

abbrev Rs := AV × List (Nat × U)
def appS (st : St) (d : Option Nat) (r : Rs) : St := (st.addUs r.2).setO d r.1

def QD (P : Program) (op : ROp) (st : St) (r : Rs) : Prop := qOp P op st.ev st.unit (fun v u => v = r.1 ∧ u = r.2) ∧ (r.2 = [] ∨ st.fresh r.2 = true)
def StepDet (P : Program) (R : RO) (st : St) (r : Rs) : Prop :=
 match R.g with
 | none => QD P R.op st r
 | some (t, b) => (∃ tk c, st.get t = .im tk (.sc (.bool c)) ∧ (c = b → QD P R.op st r) ∧ (c = !b → r = (.tup [], []))) ∨ (st.get t = .tup [] ∧ r = (.tup [], []))

def Lex (P : Program) : List RO → List Rs → St → St → Prop
 | [], [], s, s' => s = s'
 | R :: Rl, r :: rl, s, s' => StepDet P R s r ∧ Lex P Rl rl (appS s R.op.dst r) s'
 | _, _, _, _ => False

theorem lex_of_vc {K : Exit → St → Prop} : ∀ {Rl : List RO} {st : St}, (∀ R ∈ Rl, R.op.isQ = true) → vcOps P Rl st K → ∃ rl s', Lex P Rl rl st s' ∧ K .normal s' ∧ rl.length = Rl.length
 | [], st, _, h => ⟨[], st, rfl, h, rfl⟩
 | R :: Rl, st, hQ, h => by
  have hq := hQ R (by simp)
  have hQ' : ∀ R ∈ Rl, R.op.isQ = true := fun R hR => hQ R (by simp [hR])
  have one : vcOp P R.op st (kops P Rl K) → ∃ r, QD P R.op st r ∧ vcOps P Rl (appS st R.op.dst r) K := by
   intro h
   unfold vcOp at h
   rw [hq, if_pos rfl] at h
   obtain ⟨av, us, hk, hd⟩ := qOp_det h
   obtain ⟨h1, h2⟩ := setO_post hk
   exact ⟨(av, us), ⟨hd, h1⟩, h2⟩
  obtain ⟨g, op⟩ := R
  cases g with
  | none =>
   obtain ⟨r, h1, h2⟩ := one h
   obtain ⟨rl, s', h3, h4, h5⟩ := lex_of_vc hQ' h2
   exact ⟨r :: rl, s', ⟨h1, h3⟩, h4, by simp [h5]⟩
  | some x =>
   obtain ⟨t, b⟩ := x
   have h : grdK (st.get t) b (vcOp P op st (kops P Rl K)) (vcOps P Rl (st.setO op.dst (.tup [])) K) := h
   unfold grdK at h
   split at h
   ·next tk c hc =>
    by_cases e : c = b
    ·obtain ⟨r, h1, h2⟩ := one (h.1 e)
     obtain ⟨rl, s', h3, h4, h5⟩ := lex_of_vc hQ' h2
     exact ⟨r :: rl, s', ⟨.inl ⟨tk, c, hc, fun _ => h1, fun e' => by subst e; cases c <;> cases e'⟩, h3⟩, h4, by simp [h5]⟩
    ·have e' : c = !b := by cases c <;> cases b <;> simp_all
     have h2 : vcOps P Rl (appS st op.dst (.tup [], [])) K := by unfold appS; rw [addUs_nil]; exact h.2 e'
     obtain ⟨rl, s', h3, h4, h5⟩ := lex_of_vc hQ' h2
     exact ⟨(.tup [], []) :: rl, s', ⟨.inl ⟨tk, c, hc, fun h => absurd h e, fun _ => rfl⟩, h3⟩, h4, by simp [h5]⟩
   ·next hc =>
    have h2 : vcOps P Rl (appS st op.dst (.tup [], [])) K := by unfold appS; rw [addUs_nil]; exact h
    obtain ⟨rl, s', h3, h4, h5⟩ := lex_of_vc hQ' h2
    exact ⟨(.tup [], []) :: rl, s', ⟨.inr ⟨hc, rfl⟩, h3⟩, h4, by simp [h5]⟩
   ·exact h.elim

def execL (st0 : St) (D : Nat → Option Nat) (V : Nat → Rs) : List Nat → St
 | [] => st0
 | i :: L => appS (execL st0 D V L) (D i) (V i)

theorem execL_n {st0 : St} {D : Nat → Option Nat} {V : Nat → Rs} : ∀ {L : List Nat}, (execL st0 D V L).n = st0.n
 | [] => rfl
 | i :: L => by
  have := execL_n (st0 := st0) (D := D) (V := V) (L := L)
  simp only [execL, appS]
  cases D i <;> exact this

theorem execL_us {st0 : St} {D : Nat → Option Nat} {V : Nat → Rs} : ∀ {L : List Nat}, (execL st0 D V L).us = L.flatMap (fun i => (V i).2) ++ st0.us
 | [] => rfl
 | i :: L => by
  have := execL_us (st0 := st0) (D := D) (V := V) (L := L)
  simp only [execL, appS, List.flatMap_cons, List.append_assoc]
  cases D i <;> simp [St.setO, St.set, St.addUs, this]

theorem execL_lk {st0 : St} {D : Nat → Option Nat} {V : Nat → Rs} (hD : ∀ i j t, D i = some t → D j = some t → i = j) : ∀ {L : List Nat} {t : Nat},
  (∀ i, i ∈ L → D i = some t → lk (execL st0 D V L).env t = (V i).1) ∧ ((∀ i ∈ L, D i ≠ some t) → lk (execL st0 D V L).env t = lk st0.env t)
 | [], t => ⟨by simp, fun _ => rfl⟩
 | j :: L, t => by
  obtain ⟨h1, h2⟩ := execL_lk (st0 := st0) (V := V) hD (L := L) (t := t)
  have hstep : lk (execL st0 D V (j :: L)).env t = if D j = some t then (V j).1 else lk (execL st0 D V L).env t := by
   simp only [execL, appS]
   cases hj : D j with
   | none => simp [St.setO, St.addUs]
   | some d => simp [St.setO, St.set, St.addUs, lk]
  rw [hstep]
  refine ⟨fun i hi hd => ?_, fun hno => ?_⟩
  ·split
   ·next e => rw [hD i j t hd e]
   ·next e =>
    rcases List.mem_cons.1 hi with rfl | hi
    ·exact absurd hd e
    ·exact h1 i hi hd
  ·rw [if_neg (hno j (by simp))]
   exact h2 fun i hi => hno i (by simp [hi])

def downs : Nat → List Nat
 | 0 => []
 | n + 1 => n :: downs n
theorem mem_downs {n i : Nat} : i ∈ downs n ↔ i < n := by
 induction n with
 | zero => simp [downs]
 | succ n ih => simp [downs, ih]; omega

theorem lex_exec {Rl : List RO} {rl : List Rs} : ∀ {st s' : St} {k : Nat} {st0 : St} {D : Nat → Option Nat} {V : Nat → Rs}, Lex P Rl rl st s' → st = execL st0 D V (downs k) →
  (∀ i, i < Rl.length → D (k + i) = (Rl.getD i default).op.dst) → (∀ i, i < Rl.length → V (k + i) = rl.getD i (.any, [])) →
  s' = execL st0 D V (downs (k + Rl.length)) ∧ ∀ i, i < Rl.length → StepDet P (Rl.getD i default) (execL st0 D V (downs (k + i))) (V (k + i)) := by
 induction Rl generalizing rl with
 | nil =>
  intro st s' k st0 D V h e _ _
  cases rl with
  | nil => simp only [Lex] at h; subst h; exact ⟨e, by simp⟩
  | cons => simp [Lex] at h
 | cons R Rl ih =>
  intro st s' k st0 D V h e hD hV
  cases rl with
  | nil => simp [Lex] at h
  | cons r rl =>
   simp only [Lex] at h
   have d0 := hD 0 (by simp)
   have v0 := hV 0 (by simp)
   simp only [Nat.add_zero, List.getD_cons_zero] at d0 v0
   have e2 : appS st R.op.dst r = execL st0 D V (downs (k + 1)) := by
    simp only [downs, execL]
    rw [e, d0, v0]
   obtain ⟨h1, h2⟩ := ih h.2 e2 (fun i hi => by have := hD (i + 1) (by simp; omega); simpa [Nat.add_assoc, Nat.add_comm 1 i] using this) (fun i hi => by have := hV (i + 1) (by simp; omega); simpa [Nat.add_assoc, Nat.add_comm 1 i] using this)
   refine ⟨by rw [h1]; congr 2; simp; omega, ?_⟩
   intro i hi
   cases i with
   | zero => simp only [Nat.add_zero, List.getD_cons_zero]; rw [v0, ← e]; exact h.1
   | succ i =>
    have := h2 i (by simpa using hi)
    rw [show k + (i + 1) = k + 1 + i by omega]
    simpa using this

theorem noU_of {k : Nat} : ∀ {us : List (Nat × U)}, k ∉ us.map (·.1) → noU k us = true
 | [], _ => rfl
 | (i, u) :: r, h => by
  simp only [lC, List.mem_cons, not_or] at h
  simp only [noU, bA, bne_iff_ne]
  exact ⟨fun e => h.1 e.symm, noU_of h.2⟩

theorem fresh_of {st : St} : ∀ {us : List (Nat × U)}, ((us ++ st.us).map (·.1)).Nodup → st.fresh us = true
 | [], _ => rfl
 | x :: r, h => by
  simp only [List.cons_append, lC, List.nodup_cons, List.map_append, List.mem_append, not_or] at h
  simp only [St.fresh, bA]
  exact ⟨⟨noU_of h.1.2, noU_of h.1.1⟩, fresh_of (by simpa using h.2)⟩

theorem nodup_of_fresh {st : St} (hk : (st.us.map (·.1)).Nodup) : ∀ {us : List (Nat × U)}, (us = [] ∨ st.fresh us = true) → ((us ++ st.us).map (·.1)).Nodup
 | [], _ => hk
 | x :: r, h => by
  have h := h.resolve_left (by simp)
  simp only [St.fresh, bA] at h
  simp only [List.cons_append, lC, List.nodup_cons, List.map_append, List.mem_append, not_or]
  exact ⟨⟨noU_spec h.1.2, noU_spec h.1.1⟩, by have := nodup_of_fresh hk (us := r) (.inr h.2); simpa using this⟩

theorem lu_of_mem {us : List (Nat × U)} (hk : (us.map (·.1)).Nodup) {k : Nat} {u : U} (hm : (k, u) ∈ us) : lu us k = some u := by
 induction us with
 | nil => cases hm
 | cons x us ih =>
  obtain ⟨i, v⟩ := x
  simp only [lC, List.nodup_cons] at hk
  simp only [lu]
  rcases List.mem_cons.1 hm with e | hm
  ·injection e with e1 e2; subst e1; subst e2; simp
  ·have : i ≠ k := fun e => hk.1 (List.mem_map.2 ⟨_, hm, e.symm⟩)
   rw [if_neg this]
   exact ih hk.2 hm

mutual
theorem vrep_ids {h : Heap} {us : List (Nat × U)} {g : Gh} : ∀ {av : AV} {v : Value}, VRep h us g av v → ∀ i ∈ av.ids, ∃ u, (i, u) ∈ us
 | .tr k, v, hr, i, hi => by
  simp only [AV.ids, List.mem_singleton] at hi; subst hi
  simp only [VRep] at hr; obtain ⟨⟨d, hd⟩, _⟩ := hr; exact ⟨_, hd⟩
 | .pw k _ _, v, hr, i, hi => by
  simp only [AV.ids, List.mem_singleton] at hi; subst hi
  simp only [VRep] at hr; obtain ⟨_, _, _, _, _, h1, _⟩ := hr; exact ⟨_, h1⟩
 | .cw k _ _ _ _, v, hr, i, hi => by
  simp only [AV.ids, List.mem_singleton] at hi; subst hi
  simp only [VRep] at hr; obtain ⟨_, _, _, _, _, _, h1, _⟩ := hr; exact ⟨_, h1⟩
 | .sm k _ _, v, hr, i, hi => by
  simp only [AV.ids, List.mem_singleton] at hi; subst hi
  simp only [VRep] at hr; obtain ⟨_, _, _, _, h1, _⟩ := hr; exact ⟨_, h1⟩
 | .pb k _, v, hr, i, hi => by
  simp only [AV.ids, List.mem_singleton] at hi; subst hi
  simp only [VRep] at hr; obtain ⟨_, _, _, h1, _⟩ := hr; exact ⟨_, h1⟩
 | .ps k, v, hr, i, hi => by
  simp only [AV.ids, List.mem_singleton] at hi; subst hi
  simp only [VRep] at hr; obtain ⟨_, _, _, _, h1, _⟩ := hr; exact ⟨_, h1⟩
 | .vb k _, v, hr, i, hi => by
  simp only [AV.ids, List.mem_singleton] at hi; subst hi
  simp only [VRep] at hr; obtain ⟨_, _, _, h1, _⟩ := hr; exact ⟨_, h1⟩
 | .sg vs, v, hr, i, hi => by
  simp only [AV.ids] at hi
  simp only [VRep] at hr
  obtain ⟨xs, h1, _⟩ := hr
  exact vrepL_ids h1 i hi
 | .im _ _, v, hr, i, hi => by simp [AV.ids] at hi
 | .tup _, v, hr, i, hi => by simp [AV.ids] at hi
 | .any, v, hr, i, hi => by simp [AV.ids] at hi
 | .cl f vs, v, hr, i, hi => by
  simp only [AV.ids] at hi
  simp only [VRep] at hr
  obtain ⟨xs, h1, _⟩ := hr
  exact vrepL_ids h1 i hi
 | .pq k _ _ _ _ _, v, hr, i, hi => by
  simp only [AV.ids, List.mem_singleton] at hi; subst hi
  simp only [VRep] at hr; obtain ⟨_, _, _, _, _, _, _, _, _, _, _, h1, _⟩ := hr; exact ⟨_, h1⟩
 | .qs k _ _ _ _ _, v, hr, i, hi => by
  simp only [AV.ids, List.mem_singleton] at hi; subst hi
  simp only [VRep] at hr; obtain ⟨_, _, _, _, _, _, _, _, _, _, h1, _⟩ := hr; exact ⟨_, h1⟩
 | .ss k _ _, v, hr, i, hi => by
  simp only [AV.ids, List.mem_singleton] at hi; subst hi
  simp only [VRep] at hr; obtain ⟨_, _, _, _, h1, _⟩ := hr; exact ⟨_, h1⟩
 | .z0 _ _, v, hr, i, hi => by simp [AV.ids] at hi
theorem vrepL_ids {h : Heap} {us : List (Nat × U)} {g : Gh} : ∀ {avs : List AV} {vs : List Value}, VRepL h us g avs vs → ∀ i ∈ AV.idsL avs, ∃ u, (i, u) ∈ us
 | [], vs, hr, i, hi => by simp [AV.idsL] at hi
 | a :: as, vs, hr, i, hi => by
  simp only [VRepL] at hr
  obtain ⟨v, r, rfl, h1, h2⟩ := hr
  simp only [AV.idsL, List.mem_append] at hi
  rcases hi with hi | hi
  ·exact vrep_ids h1 i hi
  ·exact vrepL_ids h2 i hi
end

theorem Sat.eqv {st st' : St} {a : Act} {w : World} (hs : Sat n0 S0 M0 w0 st a w) (hn : st'.n = st.n) (he : ∀ t, lk st'.env t = lk st.env t) (hp : st'.us.Perm st.us) : Sat n0 S0 M0 w0 st' a w := by
 obtain ⟨g, hu, hv⟩ := hs.gh
 have hfp : (fp g st'.us).Perm (fp g st.us) := hp.flatMap_right _
 have hm : ∀ x ∈ st.us, x ∈ st'.us := fun x hx => hp.mem_iff.2 hx
 refine ⟨hs.ms, hs.dfr, hs.tm.trans hn.symm, hs.base, hs.os, hs.tape, hs.output, hs.size, hs.old, g, ⟨?_, hfp.nodup_iff.2 hu.nodup, fun b hb => hu.lt b (hfp.mem_iff.1 hb), fun b hb => hu.low b (hfp.mem_iff.1 hb), ?_, ?_, ?_, fun b hb => hu.fz b (hfp.mem_iff.1 hb), hu.pin.mono fun i u hm hq => ⟨⟨_, hp.mem_iff.1 hm, hq⟩, rfl, rfl⟩⟩, fun t => ?_⟩
 ·exact (hp.map _).nodup_iff.2 hu.keys
 ·intro k hk
  exact hu.dead k fun h => hk ((hp.map _).mem_iff.2 h)
 ·intro b hb
  obtain ⟨h1, h2, h3⟩ := hu.sh b hb
  exact ⟨h1, h2, fun h => h3 (hfp.mem_iff.1 h)⟩
 ·intro x hx
  have hx' := hp.mem_iff.1 hx
  exact (hu.each x hx').mono hx' hm (fun _ _ => rfl) (fun _ _ => ⟨rfl, rfl, rfl⟩) rfl (fun _ _ h => h) (fun _ _ _ h => h)
 ·rw [he]
  exact (hv t).mono hm (fun _ _ => rfl) (fun _ _ => ⟨rfl, rfl, rfl⟩) (fun _ _ _ h => h)

end Go.Ax
namespace Go.Ax

variable {P : Program} {wv : Wv} {n0 : Nat} {S0 M0 : Nat → Prop} {w0 : World}

theorem noDup_spec : ∀ {l : List Nat}, noDup l = true → l.Nodup
 | [], _ => List.nodup_nil
 | x :: l, h => by
  simp only [noDup, bA, Bool.not_eq_true', List.contains_eq_mem, decide_eq_false_iff_not] at h
  exact List.nodup_cons.2 ⟨h.1, noDup_spec h.2⟩

def dOf (R : List RO) (i : Nat) : Option Nat := R[i]?.bind (·.op.dst)
def vOf (rl : List Rs) (i : Nat) : Rs := rl.getD i (.any, [])

theorem dOf_inj : ∀ {R : List RO}, (R.filterMap (·.op.dst)).Nodup → ∀ i j t, dOf R i = some t → dOf R j = some t → i = j
 | [], _, i, j, t, h, _ => by simp [dOf] at h
 | r :: R, hn, i, j, t, hi, hj => by
  have mem : ∀ k, dOf R k = some t → t ∈ R.filterMap (·.op.dst) := by
   intro k hk
   simp only [dOf, oB] at hk
   obtain ⟨x, hx, hd⟩ := hk
   exact List.mem_filterMap.2 ⟨x, List.mem_of_getElem? hx, hd⟩
  have hn' : (R.filterMap (·.op.dst)).Nodup := by
   simp only [List.filterMap_cons] at hn
   split at hn
   ·exact hn
   ·exact (List.nodup_cons.1 hn).2
  have h0 : ∀ k, r.op.dst = some t → dOf R k = some t → False := by
   intro k h1 h2
   simp only [List.filterMap_cons, h1] at hn
   exact (List.nodup_cons.1 hn).1 (mem k h2)
  cases i with
  | zero =>
   cases j with
   | zero => rfl
   | succ j => exact (h0 j (by simpa [dOf] using hi) (by simpa [dOf] using hj)).elim
  | succ i =>
   cases j with
   | zero => exact (h0 i (by simpa [dOf] using hj) (by simpa [dOf] using hi)).elim
   | succ j => rw [dOf_inj hn' i j t (by simpa [dOf] using hi) (by simpa [dOf] using hj)]

theorem downs_nodup : ∀ {n : Nat}, (downs n).Nodup
 | 0 => List.nodup_nil
 | n + 1 => List.nodup_cons.2 ⟨by rw [mem_downs]; omega, downs_nodup⟩

theorem downs_len : ∀ {n : Nat}, (downs n).length = n
 | 0 => rfl
 | n + 1 => by simp [downs, downs_len]

theorem perm_part {n : Nat} {X : List Nat} (hn : X.Nodup) (hl : ∀ i ∈ X, i < n) : X.Perm ((downs n).filter (fun i => decide (i ∈ X))) :=
 (List.perm_ext_iff_of_nodup hn (downs_nodup.filter _)).2 fun a => by
  simp only [List.mem_filter, mem_downs, decide_eq_true_eq]
  exact ⟨fun h => ⟨hl a h, h⟩, fun h => h.2⟩

theorem full_of_len {n : Nat} {X : List Nat} (hn : X.Nodup) (hl : ∀ i ∈ X, i < n) (h : X.length = n) : ∀ i, i < n → i ∈ X := by
 have := (perm_part hn hl).length_eq
 have h2 : ((downs n).filter (fun i => decide (i ∈ X))).length = (downs n).length := by rw [← this, h, downs_len]
 intro i hi
 have := List.length_filter_eq_length_iff.1 h2 i (mem_downs.2 hi)
 simpa using this

theorem sub_flat {α β : Type} {f : α → List β} : ∀ {l m : List α}, l.Sublist m → (l.flatMap f).Sublist (m.flatMap f)
 | _, _, .slnil => List.Sublist.refl _
 | _, _, .cons a h => by
  simp only [List.flatMap_cons]
  exact (sub_flat h).trans (List.sublist_append_right _ _)
 | _, _, .cons_cons a h => by
  simp only [List.flatMap_cons]
  exact (List.Sublist.refl _).append (sub_flat h)

theorem keys_part {st0 : St} {D : Nat → Option Nat} {V : Nat → Rs} {n : Nat} (hf : ((execL st0 D V (downs n)).us.map (·.1)).Nodup) {X : List Nat} (hn : X.Nodup) (hl : ∀ i ∈ X, i < n) :
  ((execL st0 D V X).us.map (·.1)).Nodup ∧ ∀ x ∈ (execL st0 D V X).us, x ∈ (execL st0 D V (downs n)).us := by
 rw [execL_us] at hf
 simp only [execL_us]
 have hp := perm_part hn hl
 have h1 : ((X.flatMap fun i => (V i).2) ++ st0.us).Perm ((((downs n).filter (fun i => decide (i ∈ X))).flatMap fun i => (V i).2) ++ st0.us) := (hp.flatMap_right _).append_right _
 have h2 : ((((downs n).filter (fun i => decide (i ∈ X))).flatMap fun i => (V i).2) ++ st0.us).Sublist (((downs n).flatMap fun i => (V i).2) ++ st0.us) := (sub_flat List.filter_sublist).append (List.Sublist.refl _)
 exact ⟨(h1.map _).nodup_iff.2 ((h2.map _).nodup hf), fun x hx => h2.subset (h1.mem_iff.1 hx)⟩

theorem final_nodup {st0 : St} {D : Nat → Option Nat} {V : Nat → Rs} {R : List RO} (h0 : (st0.us.map (·.1)).Nodup) : ∀ n, n ≤ R.length → (∀ i, i < R.length → StepDet P (R.getD i default) (execL st0 D V (downs i)) (V i)) →
  ((execL st0 D V (downs n)).us.map (·.1)).Nodup
 | 0, _, _ => h0
 | n + 1, hn, h => by
  have ih := final_nodup h0 n (by omega) h
  have hs := h n (by omega)
  have : (V n).2 = [] ∨ (execL st0 D V (downs n)).fresh (V n).2 = true := by
   unfold StepDet at hs
   split at hs
   ·exact hs.2
   ·next t b _ =>
    rcases hs with ⟨tk, c, _, h1, h2⟩ | ⟨_, h2⟩
    ·by_cases e : c = b
     ·exact (h1 e).2
     ·exact .inl (by rw [h2 (by cases c <;> cases b <;> simp_all)])
    ·exact .inl (by rw [h2])
  have := nodup_of_fresh ih this
  have e : (execL st0 D V (downs (n + 1))).us = (V n).2 ++ (execL st0 D V (downs n)).us := by simp [execL_us, downs]
  rw [e]
  exact this

structure Drawn (P : Program) (wv : Wv) (ops : Array Oper) (R : List RO) (st0 : St) (V : Nat → Rs) : Prop where
 len : R.length = ops.size
 res : ∀ (i : Nat) (o : Oper), ops[i]? = some o → ∃ r, R[i]? = some r ∧ resRO P wv st0.n ops o = some r
 inj : ∀ i j t, dOf R i = some t → dOf R j = some t → i = j
 acyc : ∀ i, ∀ j ∈ waits ops i, j < i
 isQ : ∀ (i : Nat) (r : RO), R[i]? = some r → r.op.isQ = true
 slot : ∀ (i : Nat) (r : RO) (t : Nat), R[i]? = some r → t ∈ r.slots → ∀ j, dOf R j = some t → (j < i ∧ j ∈ waits ops i) ∨ (i < j ∧ i ∈ waits ops j)
 step : ∀ (i : Nat) (r : RO), R[i]? = some r → StepDet P r (execL st0 (dOf R) V (downs i)) (V i)
 keys : ((execL st0 (dOf R) V (downs R.length)).us.map (·.1)).Nodup

theorem drawOk_len {ops : Array Oper} {R : List RO} (h : drawOk ops R = true) : R.length = ops.size := by
 unfold drawOk at h
 simp only [bA, beq_iff_eq] at h
 exact h.1.2

theorem mapM_get {α β : Type} {f : α → Option β} : ∀ {l : List α} {m : List β}, l.mapM f = some m → ∀ (i : Nat) (a : α), l[i]? = some a → ∃ b, m[i]? = some b ∧ f a = some b
 | [], m, _, i, a, h => by simp at h
 | x :: l, m, hm, i, a, h => by
  simp only [List.mapM_cons, oD, oB, oP, oS] at hm
  obtain ⟨b, hb, m', hm', rfl⟩ := hm
  cases i with
  | zero => simp only [List.getElem?_cons_zero, oS] at h; subst h; exact ⟨b, by simp, hb⟩
  | succ i => simpa using mapM_get hm' i a (by simpa using h)

theorem drawn_of {ops : Array Oper} {R : List RO} {st s' : St} {rl : List Rs} (hd : drawOk ops R = true) (hR : ops.toList.mapM (resRO P wv st.n ops) = some R) (hk : (st.us.map (·.1)).Nodup)
  (hx : Lex P R rl st s') : Drawn P wv ops R st (vOf rl) ∧ s' = execL st (dOf R) (vOf rl) (downs R.length) := by
 have hx' := lex_exec (k := 0) (st0 := st) (D := dOf R) (V := vOf rl) hx rfl (fun i hi => by
  simp only [dOf, Nat.zero_add]
  rw [List.getD_eq_getElem?_getD, List.getElem?_eq_getElem hi]
  rfl) (fun i hi => by simp [vOf])
 simp only [Nat.zero_add] at hx'
 obtain ⟨e, hstep⟩ := hx'
 have hlen := drawOk_len hd
 unfold drawOk at hd
 simp only [bA, beq_iff_eq, List.all_eq_true, List.mem_range] at hd
 obtain ⟨⟨h1, _⟩, h2⟩ := hd
 have lt_of : ∀ {i : Nat} {r : RO}, R[i]? = some r → i < R.length := fun h => (List.getElem?_eq_some_iff.1 h).1
 refine ⟨⟨hlen, ?_, dOf_inj (noDup_spec h1), ?_, ?_, ?_, ?_, final_nodup hk _ (Nat.le_refl _) hstep⟩, e⟩
 ·intro i o ho
  exact mapM_get hR i o (by simpa using ho)
 ·intro i j hj
  by_cases hi : i < R.length
  ·have := (h2 i hi).1 j hj
   simpa using this
  ·have : ops[i]? = none := by simp; omega
   simp [waits, this] at hj
 ·intro i r hr
  have := (h2 i (lt_of hr)).2
  rw [hr] at this
  simp only [bA] at this
  exact this.1
 ·intro i r t hr ht j hj
  have := (h2 i (lt_of hr)).2
  rw [hr] at this
  simp only [bA, List.all_eq_true] at this
  have hs := this.2 t ht
  unfold slotOk at hs
  simp only [List.all_eq_true, List.mem_range] at hs
  simp only [dOf, oB] at hj
  obtain ⟨x, hx, hd⟩ := hj
  have := hs j (lt_of hx)
  rw [hx] at this
  simpa [hd] using this
 ·intro i r hr
  have := hstep i (lt_of hr)
  rw [List.getD_eq_getElem?_getD, hr] at this
  exact this

structure Come (P : Program) (ops : Array Oper) (R : List RO) (X : List Nat) (listed : Array Bool) : Prop where
 nd : X.Nodup
 lt : ∀ i ∈ X, i < ops.size
 closed : ∀ i ∈ X, ∀ j ∈ waits ops i, j ∈ X
 size : listed.size = ops.size
 li : ∀ j, j < ops.size → (listed.getD j true = true ↔ j ∈ X)

theorem Come.li' {ops : Array Oper} {R : List RO} {X : List Nat} {listed : Array Bool} (h : Come P ops R X listed) {j : Nat} (hj : listed.getD j false = true) : j ∈ X := by
 by_cases hlt : j < ops.size
 ·refine (h.li j hlt).1 ?_
  rw [Array.getD_eq_getD_getElem?] at hj ⊢
  rw [← h.size] at hlt
  rw [Array.getElem?_eq_getElem hlt] at hj ⊢
  exact hj
 ·rw [Array.getD_eq_getD_getElem?, Array.getElem?_eq_none (by rw [h.size]; omega)] at hj
  cases hj

theorem Come.full {ops : Array Oper} {R : List RO} {X : List Nat} {listed : Array Bool} (h : Come P ops R X listed) (ha : ∀ i, ∀ j ∈ waits ops i, j < i) (hr : Region.ready .any ops listed = []) : ∀ i, i < ops.size → i ∈ X := by
 intro i
 induction i using Nat.strongRecOn with
 | ind i ih =>
  intro hi
  by_cases hm : i ∈ X
  ·exact hm
  ·exfalso
   have : i ∈ Region.ready .any ops listed := by
    rw [mem_ready]
    refine ⟨?_, ops[i], by simp [hi], fun e he hb => ?_⟩
    ·cases hc : listed.getD i true with
     | false => rfl
     | true => exact absurd ((h.li i hi).1 hc) hm
    ·have hw : e.on ∈ waits ops i := by
      simp only [waits, Array.getElem?_eq_getElem hi, direct]
      exact List.mem_map.2 ⟨e, List.mem_filter.2 ⟨by simpa using he, hb⟩, rfl⟩
     have hlt := ha i _ hw
     have hin := ih _ hlt (by omega)
     have := (h.li e.on (by omega)).2 hin
     rw [Array.getD_eq_getD_getElem?] at this ⊢
     have hs : e.on < listed.size := by rw [h.size]; omega
     rw [Array.getElem?_eq_getElem hs] at this ⊢
     exact this
   rw [hr] at this
   cases this

theorem Come.next {ops : Array Oper} {R : List RO} {X : List Nat} {listed : Array Bool} (h : Come P ops R X listed) {i : Nat} (hi : i ∈ Region.ready .any ops listed) :
  Come P ops R (i :: X) (listed.setIfInBounds i true) ∧ i ∉ X ∧ ∃ o, ops[i]? = some o ∧ ∀ j ∈ waits ops i, j ∈ X := by
 obtain ⟨h1, o, ho, h2⟩ := mem_ready.1 hi
 have hlt : i < ops.size := (Array.getElem?_eq_some_iff.1 ho).1
 have hni : i ∉ X := fun hx => by rw [(h.li i hlt).2 hx] at h1; cases h1
 have hw : ∀ j ∈ waits ops i, j ∈ X := by
  intro j hj
  simp only [waits, ho, direct] at hj
  obtain ⟨e, he, rfl⟩ := List.mem_map.1 hj
  obtain ⟨he1, he2⟩ := List.mem_filter.1 he
  exact h.li' (h2 e (by simpa using he1) he2)
 refine ⟨⟨List.nodup_cons.2 ⟨hni, h.nd⟩, ?_, ?_, by simpa using h.size, ?_⟩, hni, o, ho, hw⟩
 ·intro j hj
  rcases List.mem_cons.1 hj with rfl | hj
  ·exact hlt
  ·exact h.lt j hj
 ·intro j hj k hk
  rcases List.mem_cons.1 hj with rfl | hj
  ·exact List.mem_cons_of_mem _ (hw k hk)
  ·exact List.mem_cons_of_mem _ (h.closed j hj k hk)
 ·intro j hj
  by_cases e : i = j
  ·subst e
   have hs : i < listed.size := by rw [h.size]; exact hlt
   simp [Array.getD_eq_getD_getElem?, hs]
  ·rw [getD_set_ne _ e, h.li j hj]
   simp [Ne.symm e]

theorem slots_same {ops : Array Oper} {R : List RO} {st : St} {V : Nat → Rs} {X : List Nat} {listed : Array Bool} {i t : Nat} {r : RO} (hd : Drawn P wv ops R st V) (h : Come P ops R X listed) (hr : R[i]? = some r)
  (hw : ∀ j ∈ waits ops i, j ∈ X) (hn : i ∉ X) (ht : t ∈ r.slots) : lk (execL st (dOf R) V X).env t = lk (execL st (dOf R) V (downs i)).env t := by
 have a := execL_lk (st0 := st) (V := V) hd.inj (L := X) (t := t)
 have b := execL_lk (st0 := st) (V := V) hd.inj (L := downs i) (t := t)
 by_cases he : ∃ j, dOf R j = some t
 ·obtain ⟨j, hj⟩ := he
  rcases hd.slot i r t hr ht j hj with ⟨h1, h2⟩ | ⟨h1, h2⟩
  ·rw [a.1 j (hw j h2) hj, b.1 j (mem_downs.2 h1) hj]
  ·have hx : j ∉ X := fun hx => hn (h.closed j hx i h2)
   rw [a.2 fun k hk e => hx (hd.inj k j t e hj ▸ hk), b.2 fun k hk e => by
    have := hd.inj k j t e hj
    have := mem_downs.1 hk
    omega]
 ·rw [a.2 fun k _ e => he ⟨k, e⟩, b.2 fun k _ e => he ⟨k, e⟩]

end Go.Ax
namespace Go.Ax

variable {P : Program} {wv : Wv} {n0 : Nat} {S0 M0 : Nat → Prop} {w0 : World}

theorem one_sound {ops : Array Oper} {R : List RO} {st : St} {V : Nat → Rs} {X : List Nat} {listed : Array Bool} {i : Nat} {r : RO} {o : Oper} {a : Act} {w : World} {Q : Exit → Act → World → Prop}
  (hd : Drawn P wv ops R st V) (h : Come P ops R X listed) (ho : ops[i]? = some o) (hr : R[i]? = some r) (hres : resRO P wv st.n ops o = some r)
  (hw : ∀ j ∈ waits ops i, j ∈ X) (hn : i ∉ X) (hnext : Come P ops R (i :: X) (listed.setIfInBounds i true)) (hs : Sat n0 S0 M0 w0 (execL st (dOf R) V X) a w) :
  wpOp P ops Q i (fun a w => Sat n0 S0 M0 w0 (execL st (dOf R) V (i :: X)) a w) a w := by
 have hlen := hd.len
 have hXn : (execL st (dOf R) V X).n = st.n := execL_n
 have hget : ∀ t ∈ r.slots, (execL st (dOf R) V X).get t = (execL st (dOf R) V (downs i)).get t := fun t ht => slots_same hd h hr hw hn ht
 have hkX := keys_part hd.keys h.nd (fun j hj => by have := h.lt j hj; omega)
 have hkN := keys_part hd.keys hnext.nd (fun j hj => by have := hnext.lt j hj; omega)
 have hi : i < R.length := (List.getElem?_eq_some_iff.1 hr).1
 have hkD := keys_part (X := downs i) hd.keys downs_nodup (fun j hj => by have := mem_downs.1 hj; omega)
 have hdst : dOf R i = r.op.dst := by simp [dOf, hr]
 have hfr : (V i).2 = [] ∨ (execL st (dOf R) V X).fresh (V i).2 = true := .inr (fresh_of (by
  have e : (execL st (dOf R) V (i :: X)).us = (V i).2 ++ (execL st (dOf R) V X).us := by simp [execL_us]
  rw [← e]
  exact hkN.1))
 have hexec : execL st (dOf R) V (i :: X) = appS (execL st (dOf R) V X) r.op.dst (V i) := by simp only [execL]; rw [hdst]
 obtain ⟨g, hu, hv⟩ := hs.gh
 have hstep := hd.step i r hr
 have hres0 := hres
 unfold resRO at hres0
 simp only [oD, oB, guard_some] at hres0
 obtain ⟨op, hop, _, h1, _, h2, hres0⟩ := hres0
 have hdl : ∀ d, o.dst = some d → d < (execL st (dOf R) V X).n := by
  intro d hdd
  rw [hXn]
  rw [hdd] at h2
  simpa using h2
 have hrop : r.op = op := by
  split at hres0
  ·simp only [oP, oS] at hres0; rw [← hres0]
  ·simp only [oB, oP, oS] at hres0
   obtain ⟨_, _, _, _, hres0⟩ := hres0
   rw [← hres0]
 have run : ∀ {Q' : Exit → Act → World → Prop}, QD P r.op (execL st (dOf R) V (downs i)) (V i) → o.wp P a w (fun a w => Sat n0 S0 M0 w0 (execL st (dOf R) V (i :: X)) a w) Q' := by
  intro Q' hq
  have hev : ∀ x ∈ r.op.xs, (execL st (dOf R) V X).ev x = (execL st (dOf R) V (downs i)).ev x := by
   intro x hx
   cases x with
   | c d => rfl
   | t n => exact hget n (List.mem_append_left _ (List.mem_filterMap.2 ⟨_, hx, rfl⟩))
  have hq' : qOp P r.op (execL st (dOf R) V X).ev (execL st (dOf R) V X).unit (fun v u => v = (V i).1 ∧ u = (V i).2) := by
   refine qOp_local hq.1 hev ?_
   intro x hx k u hk hu'
   rw [← hev x hx] at hk
   cases x with
   | c d => simp only [St.ev, litAV] at hk; split at hk <;> simp [AV.ids] at hk
   | t n =>
    obtain ⟨u', hm⟩ := vrep_ids (hv n) k hk
    have h3 := hkX.2 _ hm
    have h4 := hkD.2 _ (mem_of_lu hu')
    have e1 := lu_of_mem hd.keys h3
    have e2 := lu_of_mem hd.keys h4
    rw [e1] at e2
    injection e2 with e2
    subst e2
    exact lu_of_mem hkX.1 hm
  have hQ := hd.isQ i r hr
  rw [hrop] at hq' hQ
  have ⟨h5, h6⟩ := q_sound (Q' := Q') (n := st.n) hop hQ hXn ⟨hs, hu, hv, hdl⟩ hq'
  refine Oper.wp_mono ?_ h5
  rintro a' w' ⟨av, us, ⟨rfl, rfl⟩, hS⟩
  rw [hexec, hrop, h6]
  exact hS hfr
 unfold wpOp
 rw [ho]
 simp only
 split at hres0
 ·next hg =>
  simp only [oP, oS] at hres0
  subst hres0
  have : Region.wanted o (yielded ops a.tmps) = true := by simp [Region.wanted, hg]
  rw [this, if_pos rfl]
  exact .inl (run hstep)
 ·next j b hg =>
  simp only [oB, oP, oS] at hres0
  obtain ⟨p, hp, t, ht, rfl⟩ := hres0
  rcases hstep with ⟨tk, c, hc, hy, hno⟩ | ⟨hc, hno⟩
  ·rw [← hget t (List.mem_append_right _ (by simp))] at hc
   have hvt := hv t
   have hc' : lk (execL st (dOf R) V X).env t = .im tk (.sc (.bool c)) := hc
   rw [hc'] at hvt
   have hval := sc_val hvt
   have hyy := yielded_eq (ops := ops) hp ht hval
   have hwt : Region.wanted o (yielded ops a.tmps) = (some c == some b) := by simp [Region.wanted, hg, hyy]
   rw [hwt]
   by_cases e : c = b
   ·rw [if_pos (by simp [e])]
    exact .inl (run (hy e))
   ·rw [if_neg (by simp [e])]
    have hV : V i = (.tup [], []) := hno (by cases c <;> cases b <;> simp_all)
    rw [hexec, hV, h1]
    unfold appS
    rw [addUs_nil]
    exact sat_set hs hu hv hdl undef_rep
  ·rw [← hget t (List.mem_append_right _ (by simp))] at hc
   have hvt := hv t
   have hc' : lk (execL st (dOf R) V X).env t = .tup [] := hc
   rw [hc'] at hvt
   have hwt : Region.wanted o (yielded ops a.tmps) = false := by simp [Region.wanted, hg, yielded_undef (ops := ops) hp ht (undef_val hvt)]
   rw [hwt, if_neg (by simp), hexec, hno, h1]
   unfold appS
   rw [addUs_nil]
   exact sat_set hs hu hv hdl undef_rep

theorem drawn_any {ops : Array Oper} {R : List RO} {st : St} {V : Nat → Rs} {Q : Exit → Act → World → Prop} (hd : Drawn P wv ops R st V)
  (hend : ∀ a w, Sat n0 S0 M0 w0 (execL st (dOf R) V (downs R.length)) a w → Q .normal a w) : ∀ (fuel : Nat) (X : List Nat) (listed : Array Bool) (a : Act) (w : World), Come P ops R X listed → fuel + X.length = ops.size →
  Sat n0 S0 M0 w0 (execL st (dOf R) V X) a w → wpAny P .any ops Q fuel listed a w := by
 have fin : ∀ {X : List Nat} {listed : Array Bool} {a : Act} {w : World}, Come P ops R X listed → (∀ i, i < ops.size → i ∈ X) → Sat n0 S0 M0 w0 (execL st (dOf R) V X) a w → Q .normal a w := by
  intro X listed a w h hf hs
  have hp : X.Perm (downs R.length) := (List.perm_ext_iff_of_nodup h.nd downs_nodup).2 fun i => by
   rw [mem_downs, hd.len]
   exact ⟨h.lt i, hf i⟩
  refine hend a w (hs.eqv (by rw [execL_n, execL_n]) ?_ ?_)
  ·intro t
   have x := execL_lk (st0 := st) (V := V) hd.inj (L := X) (t := t)
   have y := execL_lk (st0 := st) (V := V) hd.inj (L := downs R.length) (t := t)
   by_cases he : ∃ j, j ∈ X ∧ dOf R j = some t
   ·obtain ⟨j, h1, h2⟩ := he
    rw [x.1 j h1 h2, y.1 j (hp.mem_iff.1 h1) h2]
   ·rw [x.2 fun k hk e => he ⟨k, hk, e⟩, y.2 fun k hk e => he ⟨k, hp.mem_iff.2 hk, e⟩]
  ·rw [execL_us, execL_us]
   exact ((hp.flatMap_right _).append_right _).symm
 intro fuel
 induction fuel with
 | zero =>
  intro X listed a w h hl hs
  have hf := full_of_len h.nd h.lt (by omega)
  refine ⟨?_, fin h hf hs⟩
  rw [List.eq_nil_iff_forall_not_mem]
  intro i hi
  have := h.next hi
  obtain ⟨_, h2, o, ho, _⟩ := this
  exact h2 (hf i (Array.getElem?_eq_some_iff.1 ho).1)
 | succ fuel ih =>
  intro X listed a w h hl hs
  refine ⟨fun h0 => fin h (h.full hd.acyc h0) hs, fun i hi => ?_⟩
  obtain ⟨h1, h2, o, ho, h3⟩ := h.next hi
  obtain ⟨r, hr, hres⟩ := hd.res i o ho
  refine wpOp_mono ?_ (one_sound (Q := Q) hd h ho hr hres h3 h2 h1 hs)
  intro a' w' hs'
  exact ih (i :: X) _ a' w' h1 (by simp only [List.length_cons]; omega) hs'

theorem draw_sound {ops : Array Oper} {R : List RO} {st : St} {K : Exit → St → Prop} {id : Nat} {a : Act} {w : World} (hm : P.follows .mixedOrders = true) (hd : drawOk ops R = true)
  (hR : ops.toList.mapM (resRO P wv st.n ops) = some R) (hs : Sat n0 S0 M0 w0 st a w) (hq : vcOps P R st K) : (Code.region id ops true).wp P (Post n0 S0 M0 w0 st.n K) a w := by
 refine wp_region_any hm ?_
 have hQ : ∀ r ∈ R, r.op.isQ = true := by
  have hd' := hd
  unfold drawOk at hd'
  simp only [bA, beq_iff_eq, List.all_eq_true, List.mem_range] at hd'
  intro r hr
  obtain ⟨i, hi, e⟩ := List.mem_iff_getElem.1 hr
  have := (hd'.2 i hi).2
  rw [List.getElem?_eq_getElem hi, e] at this
  simp only [bA] at this
  exact this.1
 obtain ⟨rl, s', hx, hK, hl⟩ := lex_of_vc hQ hq
 obtain ⟨g, hu, hv⟩ := hs.gh
 obtain ⟨hD, e⟩ := drawn_of hd hR hu.keys hx
 have hc : Come P ops R [] (Array.replicate ops.size false) := ⟨List.nodup_nil, by simp, by simp, by simp, fun j hj => by simp [Array.getD_eq_getD_getElem?, hj]⟩
 have hn : s'.n = st.n := by rw [e]; exact execL_n
 exact drawn_any hD (fun a w h => ⟨s', hn, hK, by rw [e]; exact h⟩) ops.size [] _ a _ hc (by simp) ⟨hs.ms, hs.dfr, hs.tm, hs.base, hs.os, hs.tape, hs.output, hs.size, hs.old, hs.gh⟩

end Go.Ax
