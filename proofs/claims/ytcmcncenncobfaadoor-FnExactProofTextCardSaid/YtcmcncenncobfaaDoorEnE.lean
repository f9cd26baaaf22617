/- THE ENGINE, PART 5: a generator of conditions over the register code, and its soundness. No condition. -/
import Derived.Test.YtcmcncenncobfaaDoorEnD
import Derived.Laws.BytesString
set_option linter.unusedSimpArgs false
set_option linter.unusedVariables false
set_option linter.unnecessarySimpa false
set_option linter.unusedSectionVars false
namespace Go.Ax
set_option linter.unusedSimpArgs false

variable {P : Program} {n0 : Nat} {S0 M0 : Nat → Prop} {w0 : World}
variable [Gk P n0 M0 w0]
variable {st : St} {o : Oper} {a : Act} {w : World} {k : KQ} {Q' : Exit → Act → World → Prop} {g : Gh}

theorem at_set {es : List D} {el : Nat} {x : D} (h : el < es.length) : D.at (es.set el x) el = x := by
 simp [D.at, h]

theorem put_put {e x d : D} {usz j : Nat} (hj : j + 1 ≤ usz) (hx : x.isAg = false) (hu : e.size = usz) (hw : j = 0 ∧ usz = 1 ∨ e.isAg = true) (hag : e.isAg = true → ∀ l, e = .ag l → l.length = usz) : D.put usz (D.put usz e j 1 x) j 1 d = D.put usz e j 1 d := by
 by_cases h0 : j = 0 ∧ 1 = usz
 ·simp [D.put, h0]
 ·have h1 : ¬ (j = 0 ∧ usz = 1) := fun h => h0 ⟨h.1, h.2.symm⟩
  have hA := hw.resolve_left h1
  cases e with
  | ag l =>
   have hl := hag rfl l rfl
   have hc : x.cells = [x] := by cases x <;> simp_all [D.cells, D.isAg]
   have e1 : (List.take j l ++ [x]).length = j + 1 := by simp; omega
   simp only [D.put, h0, if_false, hc]
   congr 1
   congr 1
   ·rw [List.append_assoc, List.take_append_of_le_length (by simp; omega), List.take_take, Nat.min_self]
   ·rw [← e1, List.drop_left]
  | _ => simp [D.isAg] at hA

theorem ag_len {h : Heap} {e : D} {F : List Nat} {cs : List Value} (hr : Rep h e F cs) {usz : Nat} (hu : e.size = usz) : ∀ l, e = .ag l → l.length = usz := by
 rintro l rfl
 simp only [Rep] at hr
 rw [← hu, D.size, D.sizeL_one hr.1]

theorem USat.inner {h : Heap} {us : List (Nat × U)} (hu : USat h n0 S0 M0 us g) {k b el j isz : Nat} {nn nn' : Option Bool} {usz : Nat} {es ds : List D} (hm : (k, U.ar true nn usz es) ∈ us) (hb : g.β k = some b)
  (hel : el < es.length) (hj : j + 1 ≤ usz) (hw : j = 0 ∧ usz = 1 ∧ (D.at es el).isAg = false ∨ (D.at es el).isAg = true ∧ usz ≠ 1) (hd : D.sub (D.at es el) j 1 false = .ls nn' isz ds) {c : Array Value} {e : TypeId} (hc : h[b]? = some (.cells c e (0, 0)))
  {b' off' len' cap' : Nat} (hcv : c[el * usz + j]? = some (.slice (some ⟨b', off', none⟩) len' cap')) (hne : ds ≠ []) :
  ∃ c' e' F1, len' = ds.length ∧ h[b']? = some (.cells c' e' (0, 0)) ∧ b' ≠ b ∧ off' + cap' * isz ≤ c'.size ∧ ds.length ≤ cap' ∧ ds.length ≤ maxEl ∧ (∀ d ∈ ds, d.size = isz) ∧ RepL h ds F1 ((c'.toList.drop off').take (ds.length * isz)) ∧ b' ∈ g.φ k ∧
   ∀ (h' : Heap) (c'' : Array Value) (ds2 : List D) (F2 : List Nat), h'.size = h.size → h'[b']? = some (.cells c'' e' (0, 0)) → (∀ x, x ≠ b' → h'[x]? = h[x]?) → c''.size = c'.size → ds2.length = ds.length → (∀ d ∈ ds2, d.size = isz) → F2.Sublist F1 →
    RepL h ds2 F2 ((c''.toList.drop off').take (ds.length * isz)) → ∃ g', USat h' n0 S0 M0 ((k, .ar true nn usz (inSet es usz el j (.ls nn' isz ds2))) :: killU k (AV.soft k) us) g' ∧
     ∀ av v, av.soft k = false → VRep h us g av v → VRep h' ((k, .ar true nn usz (inSet es usz el j (.ls nn' isz ds2))) :: killU k (AV.soft k) us) g' av v := by
 have ho := hu.each _ hm
 simp only [UOk] at ho
 obtain ⟨hmax, hs, ho⟩ := ho
 rcases ho with ⟨z1, _⟩ | ⟨b0, c0, e0, G, cs, rest, k1, k2, k3, k4, k5, k6, k7, k8⟩
 ·rw [hb] at z1; cases z1
 rw [hb] at k1
 obtain rfl := Option.some.inj k1
 rw [hc] at k2
 injection k2 with k2
 injection k2 with k2 k2'
 subst k2 k2'
 simp only [if_true] at k8
 have hsz : (D.at es el).size = usz := by rw [D.at_eq hel]; exact hs _ (List.getElem_mem hel)
 have hw' : j = 0 ∧ 1 = usz ∨ (D.at es el).isAg = true := hw.elim (fun h => .inl ⟨h.1, h.2.1.symm⟩) (fun h => .inr h.1)
 have hle : el * usz + usz ≤ es.length * usz := by
  have := Nat.mul_le_mul_right usz (show el + 1 ≤ es.length by omega)
  rw [Nat.add_mul] at this; omega
 have hcl := k6.length
 rw [D.sizeL_const hs] at hcl
 have hcv2 : cs[el * usz + j]? = some (.slice (some ⟨b', off', none⟩) len' cap') := by
  have h1 : c.toList[el * usz + j]? = some (.slice (some ⟨b', off', none⟩) len' cap') := by rw [Array.getElem?_toList]; exact hcv
  rw [k3, List.getElem?_append_left (by omega)] at h1
  exact h1
 generalize hcell : Value.slice (some ⟨b', off', none⟩) len' cap' = cell at hcv hcv2
 have hjk : Rep h D.jk [] [cell] := by
  simp only [Rep]
  exact ⟨trivial, cell, rfl, by rw [← hcell]; rfl⟩
 obtain ⟨A, B, C, rfl, y1, y2, y3⟩ := put_list k6 hjk hs hel (sz := 1) (by simp [D.size]) hj hw'
 have y3 := y3 false (by simp) (by simp)
 have hseg : (cs.drop (el * usz + j)).take 1 = [cell] := by
  have hlt : el * usz + j < cs.length := (List.getElem?_eq_some_iff.1 hcv2).1
  rw [List.drop_eq_getElem_cons hlt]
  have := (List.getElem?_eq_some_iff.1 hcv2).2
  simp [this]
 have hcs2 : cs.take (el * usz + j) ++ ([cell] ++ cs.drop (el * usz + j + 1)) = cs := by
  have e1 : cs.drop (el * usz + j + 1) = (cs.drop (el * usz + j)).drop 1 := by rw [List.drop_drop]
  rw [← hseg, e1, List.take_append_drop, List.take_append_drop]
 rw [hcs2] at y1
 rw [hseg, hd] at y3
 simp only [Rep] at y3
 rcases y3 with ⟨p, q1, q2, _⟩ | ⟨b1, o1, cap1, c', e', fr, F1, q1, rfl, q3, q4, q5, q6, q7, q8, q9⟩
 ·exact absurd q2 hne
 rw [← hcell] at q1
 simp only [List.cons.injEq, Value.slice.injEq, oS, Addr.mk.injEq, and_true] at q1
 obtain ⟨⟨rfl, rfl⟩, rfl, rfl⟩ := q1
 have hnd := phi_nodup hu hm
 rw [k8] at hnd
 have hφin : ∀ x ∈ b :: (A ++ (b' :: F1 ++ C)), x ∈ fp g us := fun x hx => mem_fp.2 ⟨_, hm, by rw [k8]; exact hx⟩
 have hb'φ : b' ∈ g.φ k := by rw [k8]; simp
 obtain ⟨cz, ez, hz⟩ := hu.fz b' (mem_fp.2 ⟨_, hm, hb'φ⟩)
 rw [q6] at hz
 injection hz with hz
 injection hz with hz1 hz2 hz3
 subst hz3
 have hbb : b' ≠ b := by
  rintro rfl
  exact (List.nodup_cons.1 hnd).1 (by simp)
 refine ⟨c', e', F1, rfl, q6, hbb, q7, q4, q5, q8, q9, hb'φ, ?_⟩
 intro h' c'' ds2 F2 hhs hhb hh hcs hl2 hs2 hsub hr2
 have hAC : ∀ x ∈ A ++ ([] ++ C), x ≠ b' := by
  rintro x hx rfl
  rw [List.nodup_cons, List.nodup_append, List.cons_append, List.nodup_cons] at hnd
  rcases List.mem_append.1 hx with hx | hx
  ·exact hnd.2.2.2 x hx x (by simp) rfl
  ·exact hnd.2.2.1.1 (by simp at hx; simp [hx])
 have hF1b : b' ∉ F1 := by
  intro hx
  rw [List.nodup_cons, List.nodup_append, List.cons_append, List.nodup_cons] at hnd
  exact hnd.2.2.1.1 (by simp [hx])
 have y1' : RepL h' (es.set el (D.put usz (D.at es el) j 1 D.jk)) (A ++ ([] ++ C)) cs := y1.frame fun x hx => hh x (hAC x hx)
 have hnew : Rep h' (.ls nn' isz ds2) (b' :: F2) [cell] := by
  simp only [Rep]
  refine .inr ⟨b', off', cap', c'', e', (0, 0), F2, by rw [← hcell, hl2], rfl, q3, by omega, by omega, hhb, by omega, hs2, ?_⟩
  rw [hl2]
  exact hr2.frame fun x hx => hh x (fun e => hF1b (e ▸ hsub.subset hx))
 have hel2 : el < (es.set el (D.put usz (D.at es el) j 1 D.jk)).length := by simpa using hel
 have hpag : ∀ l, D.at es el = .ag l → l.length = usz := by
  have := k6.pick hel
  obtain ⟨_, F2', _, _, c2, _, _, _, _, r2, _⟩ := this
  rw [D.at_eq hel]
  rw [D.at_eq hel] at hsz
  exact ag_len r2 hsz
 have hpp : D.put usz (D.put usz (D.at es el) j 1 D.jk) j 1 (.ls nn' isz ds2) = D.put usz (D.at es el) j 1 (.ls nn' isz ds2) :=
  put_put hj rfl hsz (hw.elim (fun h => .inl ⟨h.1, h.2.1⟩) (fun h => .inr h.1)) (fun _ => hpag)
 have hw2 : j = 0 ∧ 1 = usz ∨ (D.at (es.set el (D.put usz (D.at es el) j 1 D.jk)) el).isAg = true := by
  rw [at_set hel]
  rcases hw with h1 | h1
  ·exact .inl ⟨h1.1, h1.2.1.symm⟩
  ·right
   have h0 : ¬ (j = 0 ∧ 1 = usz) := fun h => h1.2 h.2.symm
   cases hE : D.at es el with
   | ag l => simp [D.put, h0, D.isAg]
   | _ => rw [hE] at h1; simp [D.isAg] at h1
 obtain ⟨A2, B2, C2, hABC, z1, z2, z3⟩ := put_list y1' hnew y2 hel2 (sz := 1) (by simp [D.size]) hj hw2
 have z3 := z3 false (by simp) (by simp)
 rw [hseg, at_set hel] at z3
 have hB2 : B2 = [] := by
  have : D.sub (D.put usz (D.at es el) j 1 D.jk) j 1 false = D.jk := by
   by_cases h0 : j = 0 ∧ 1 = usz
   ·simp [D.put, h0, D.sub]
   ·have h1 := hw'.resolve_left h0
    cases hE : D.at es el with
    | ag l =>
     have hl := hpag l hE
     simp only [D.put, h0, if_false, D.sub, bF, D.cells]
     rw [List.append_assoc, List.getD_eq_getElem?_getD, List.getElem?_append_right (by simp; omega)]
     simp
     rw [show j - min j l.length = 0 by omega]
     rfl
    | _ => rw [hE] at h1; simp [D.isAg] at h1
  rw [this] at z3
  simp only [Rep] at z3
  exact z3.1
 subst hB2
 rw [hcs2, at_set hel, hpp, List.set_set] at z1
 rw [at_set hel, hpp, List.set_set] at z2
 simp only [List.nil_append] at hABC
 have hperm : (A2 ++ ((b' :: F2) ++ C2)).Perm ((b' :: F2) ++ (A ++ C)) := by
  rw [hABC]
  exact (List.perm_append_comm_assoc _ _ _)
 have hnd2 : (b :: (A2 ++ ((b' :: F2) ++ C2))).Nodup := by
  refine (List.Perm.cons b hperm).nodup_iff.2 ?_
  have hp1 : (b :: (A ++ (b' :: F1 ++ C))).Perm (b :: ((b' :: F1) ++ (A ++ C))) := List.Perm.cons b (List.perm_append_comm_assoc _ _ _)
  have := hp1.nodup_iff.1 hnd
  refine List.Sublist.nodup ?_ this
  exact List.Sublist.cons_cons _ (List.Sublist.append (List.Sublist.cons_cons _ hsub) (List.Sublist.refl _))
 have hin2 : ∀ x ∈ b :: (A2 ++ ((b' :: F2) ++ C2)), x ∈ g.φ k := by
  intro x hx
  rw [k8]
  rcases List.mem_cons.1 hx with rfl | hx
  ·simp
  ·have := hperm.subset hx
   simp only [List.mem_append, List.mem_cons] at this ⊢
   rcases this with (h1 | h1) | h1 | h1
   ·exact .inr (.inr (.inl (.inl h1)))
   ·exact .inr (.inr (.inl (.inr (hsub.subset h1))))
   ·exact .inr (.inl h1)
   ·exact .inr (.inr (.inr h1))
 have hunf : ∀ x ∈ b :: (A2 ++ ((b' :: F2) ++ C2)), Unf h' x := by
  intro x hx
  by_cases e : x = b'
  ·subst e; exact ⟨_, _, hhb⟩
  ·obtain ⟨c1, e1, h1⟩ := hu.fz x (mem_fp.2 ⟨_, hm, hin2 x hx⟩)
   exact ⟨c1, e1, by rw [hh x e]; exact h1⟩
 have hok : UOk h' ((k, .ar true nn usz (inSet es usz el j (.ls nn' isz ds2))) :: killU k (AV.soft k) us) (g.fp1 k (b :: (A2 ++ ((b' :: F2) ++ C2)))) k (.ar true nn usz (inSet es usz el j (.ls nn' isz ds2))) := by
  simp only [UOk, Gh.fp1, if_true]
  refine ⟨by simpa [inSet] using hmax, z2, .inr ⟨b, c, e, _, cs, rest, hb, by rw [hh b (Ne.symm hbb)]; exact hc, k3, k4, by simpa [inSet] using k5, z1, k7, rfl⟩⟩
 obtain ⟨m1, m2⟩ := hu.mut (h' := h') hm (by omega) (fun x _ hx => hh x (fun e => hx (e ▸ hb'φ))) (.inr ⟨true, nn, usz, es, true, inSet es usz el j (.ls nn' isz ds2), rfl, rfl, by simp [inSet]⟩) hnd2 (fun x hx => ⟨hin2 x hx, hunf x hx⟩) hok
 exact ⟨_, m1, m2⟩

theorem s_st1 (h : At n0 S0 M0 w0 st o a w g) {t u1 u2 : TypeId} {sz : Nat} {p x : Operand} {A X : Ax.X} {f : St → Prop} (ho : o.op = .store t p x) (hd : o.dst = none) (hp : resX P u1 p = some A) (hx : resX P u2 x = some X)
  (hz : szOf P t = some sz) (hq : stK0 (st.ev A) (st.ev X) st sz f) : o.wp P a w (EPost n0 S0 M0 w0 st.n f) Q' := by
 by_cases hne : ∀ id el j isz el' j', st.ev A ≠ .pq id el j isz el' j'
 ·exact s_st0 h hne ho hd hp hx hz hq
 have ep := h.ev_ hp
 have ex := h.ev_ hx
 unfold stK0 at hq
 split at hq
 ·next id el j e1 => exact absurd (fun _ _ _ _ _ _ => by rw [e1]; simp) hne
 ·next id el j isz el' j' e1 =>
  rw [e1] at ep
  simp only [VRep] at ep
  obtain ⟨ow0, nn0, usz0, es0, b, c, ty, b', off', len', cap', r1, r2, r3, r4, r5, r6, hv⟩ := ep
  obtain ⟨own, d, st', g', F, hk, T, p1, p2, p3, p4, p5⟩ := takeN_ok 12 h.us (Took.refl h.us h.rep) ex hq
  simp only [stD, stQ] at hk
  split at hk
  ·next nn usz es hun =>
   unfold stI at hk
   split at hk
   ·next nn' sz' ds hds =>
    obtain ⟨⟨rfl, q1, q2, q3, q4, q5, q6, q7, q8⟩, hf⟩ := hk
    have hm := mem_of_lu hun
    obtain ⟨u0, hm0, hlike⟩ := T.mem _ _ hm
    have := h.us.uniq hm0 r1
    subst this
    simp only [U.like] at hlike
    obtain ⟨rfl, hlen⟩ := hlike
    obtain ⟨gb, _, gc⟩ := T.gh _ _ hm
    have hβ : g'.β id = some b := by rw [gb]; exact r4
    obtain ⟨c', e', F1, rfl, i1, i2, i3, i4, imax, i5, i6, i8, i7⟩ := T.us.inner hm hβ q4 r3 q6 hds r5 r6 (by rintro rfl; simp at q5)
    have hF : F = [] := noPtr_F q8 p1
    subst hF
    have hvc : (a.eval x).cells.size = sz := by
     have := p1.length
     simp at this; omega
    have hle : el' * sz' + sz' ≤ ds.length * sz' := by
     have := Nat.mul_le_mul_right sz' (show el' + 1 ≤ ds.length by omega)
     rw [Nat.add_mul] at this; omega
    have hle2 : ds.length * sz' ≤ cap' * sz' := Nat.mul_le_mul_right _ i4
    have hrun := run_st (P := P) (w := w) hz (off := off' + el' * sz' + j') hvc i1 (by omega) p1.one
    have hw6 : j' = 0 ∧ sz = sz' ∨ (D.at ds el').isAg = true := q7
    obtain ⟨A1, B1, C1, rfl, y1, y2, _⟩ := put_list i6 p1 i5 q5 q1 q3 hw6
    have hl6 := i6.length
    have hcl : ((c'.toList.drop off').take (ds.length * sz')).length = ds.length * sz' := by simp; omega
    generalize hc2 : (c'.toList.take (off' + el' * sz' + j') ++ (a.eval x).cells.toList ++ c'.toList.drop (off' + el' * sz' + j' + sz)).toArray = c2 at hrun
    have hvl : (a.eval x).cells.toList.length = sz := by simpa using hvc
    have hc'l : c'.toList.length = c'.size := by simp
    have hsz2 : c2.size = c'.size := by
     rw [← hc2]
     simp only [List.size_toArray, lP, List.length_take, List.length_drop, hvl, hc'l]
     omega
    have hseg2 : (c2.toList.drop off').take (ds.length * sz') = ((c'.toList.drop off').take (ds.length * sz')).take (el' * sz' + j') ++ ((a.eval x).cells.toList ++ ((c'.toList.drop off').take (ds.length * sz')).drop (el' * sz' + j' + sz)) := by
     rw [← hc2]
     apply List.ext_getElem?
     intro i
     simp only [List.getElem?_take, List.getElem?_drop, List.getElem?_append, List.length_take, lP, List.length_drop, hvl, hc'l]
     have z1 : min (off' + el' * sz' + j') c'.size = off' + el' * sz' + j' := by omega
     have z2 : min (el' * sz' + j') (min (ds.length * sz') (c'.size - off')) = el' * sz' + j' := by omega
     rw [z1, z2]
     by_cases g1 : i < ds.length * sz'
     ·rw [if_pos g1]
      by_cases g2 : i < el' * sz' + j'
      ·rw [if_pos (by omega), if_pos (by omega), if_pos (by omega), if_pos g2, if_pos g2, if_pos g1]
      ·by_cases g3 : i < el' * sz' + j' + sz
       ·rw [if_pos (by omega), if_neg (by omega), if_neg g2, if_pos (by omega)]
        congr 1; omega
       ·rw [if_neg (by omega), if_neg g2, if_neg (by omega), if_pos (by omega)]
        congr 1; omega
     ·rw [if_neg g1, if_neg (by omega), if_neg (by omega), if_neg (by omega)]
    obtain ⟨g2, hU2, hV2⟩ := i7 (w.setRow b' c2).heap c2 (ds.set el' (D.put sz' (D.at ds el') j' sz d)) (A1 ++ ([] ++ C1)) (setRow_size _ _ _) (setRow_heap w b' c' _ e' _ i1) (fun y hy => setRow_other w b' y _ hy) hsz2 (by simp) y2
     (by simp only [List.nil_append]; exact List.Sublist.append (List.Sublist.refl _) (List.sublist_append_right _ _)) (by rw [hseg2]; exact y1)
    have hrun' : (execOp a.eval o).run P w = .ok .skip (w.setRow b' c2) := by
     simp [execOp, ho, hv, hrun]
    unfold Oper.wp
    rw [hrun', Oper.upon_skip, hd]
    have hs0 := h.sat
    refine ⟨st'.upd id (.ar true nn usz0 (inSet es usz0 el j (.ls nn' sz' (ds.set el' (D.put sz' (D.at ds el') j' sz d))))), T.n, hf, hs0.ms, hs0.dfr, ?_, hs0.base, hs0.os, hs0.tape, hs0.output, ?_, ?_, g2, hU2, fun t => killE_rep (fun av v hf hr => hV2 _ _ hf hr) (T.rep t)⟩
    ·show a.tmps.size = _
     rw [hs0.tm]
     exact T.n.symm
    ·rw [setRow_size]; exact hs0.size
    ·intro y hy hmy
     have : y ≠ b' := by
      rintro rfl
      exact hmy (T.us.low y (mem_fp.2 ⟨_, hm, i8⟩) hy)
     rw [setRow_other w b' y _ this]
     exact hs0.old y hy hmy
   ·exact hk.elim
  ·exact hk.elim
 ·exact hq.elim

theorem s_stA (h : At n0 S0 M0 w0 st o a w g) {t u1 u2 : TypeId} {sz : Nat} {p x : Operand} {A X : Ax.X} {f : St → Prop} {tk : Option Nat} {b q id : Nat} (ho : o.op = .store t p x) (hd : o.dst = none) (hp : resX P u1 p = some A) (hx : resX P u2 x = some X)
  (hz : szOf P t = some sz) (e1 : st.ev A = .im tk (.sc (.pointer (some ⟨b, q, none⟩)))) (hq : takeN 12 st (st.ev X) (stA id b q sz f)) : o.wp P a w (EPost n0 S0 M0 w0 st.n f) Q' := by
 have ep := h.ev_ hp
 rw [e1] at ep
 have hv := sc_val ep
 have ex := h.ev_ hx
 obtain ⟨own, d, st', g', F, hk, T, p1, p2, p3, p4, p5⟩ := takeN_ok 12 h.us (Took.refl h.us h.rep) ex hq
 simp only [stA, stAu] at hk
 split at hk
 ·next nn usz d1 hun =>
  obtain ⟨rfl, d2, ⟨q1, q2, q3⟩, hf⟩ := hk
  have hm := mem_of_lu hun
  have hU := T.us.each _ hm
  simp only [UOk] at hU
  obtain ⟨hmax, hs, hU⟩ := hU
  rcases hU with ⟨_, z1, _⟩ | ⟨b1, c1, e2, G, cs, rest, k1, k2, k3, k4, k5, k6, k7, k8⟩
  ·cases z1
  simp only [if_true] at k8
  simp only [RepL] at k6
  obtain ⟨F1, F2, x1, x2, rfl, rfl, k6, rfl, rfl⟩ := k6
  simp only [List.append_nil] at k8 k3
  have hnd := phi_nodup T.us hm
  rw [k8] at hnd
  have hFF := p3.1 rfl
  have hφfp : ∀ y ∈ g'.φ id, y ∈ fp g' st'.us := fun y hy => mem_fp.2 ⟨_, hm, hy⟩
  have hdis : ∀ y ∈ F1, y ∉ F := fun y hy hyF => (hFF.2 y hyF).2.2.1 (hφfp y (by rw [k8]; simp [hy]))
  obtain ⟨c, e, fr, m1, m2, m3, m4⟩ := q3 w.heap F1 F x1 (a.eval x).cells.toList k6 (List.nodup_cons.1 hnd).2 p1 hFF.1 hdis
  have hbφ : b ∈ g'.φ id := by rw [k8]; simp [m1]
  obtain ⟨cz, ez, hzz⟩ := T.us.fz b (hφfp b hbφ)
  rw [m2] at hzz
  injection hzz with hzz
  injection hzz with hz1 hz2 hz3
  subst hz3
  have hvc : (a.eval x).cells.size = sz := by
   have := p1.length
   simp at this; omega
  have hrun := run_st (P := P) (w := w) hz (off := q) hvc m2 m3 p1.one
  generalize hnew : (c.toList.take q ++ (a.eval x).cells.toList ++ c.toList.drop (q + sz)).toArray = new at hrun
  have hother : ∀ y, y ≠ b → (w.setRow b new).heap[y]? = w.heap[y]? := fun y hy => setRow_other w b y _ hy
  have hbb : (w.setRow b new).heap[b]? = some (.cells new e (0, 0)) := setRow_heap w b c _ e _ m2
  obtain ⟨F', n1, n2, n3⟩ := m4 (w.setRow b new).heap new hother hbb (by rw [← hnew]; simp)
  have hb1b : b1 ≠ b := fun e => (List.nodup_cons.1 hnd).1 (e ▸ m1)
  have hb1 : b1 ∈ g'.φ id := by rw [k8]; simp
  have hok : UOk (w.setRow b new).heap ((id, .ar true nn usz [d2]) :: killU id (AV.soft id) st'.us) (g'.fp1 id (b1 :: F')) id (.ar true nn usz [d2]) := by
   simp only [UOk, Gh.fp1, if_true]
   refine ⟨by simpa using hmax, ?_, .inr ⟨b1, c1, e2, F', x1, rest, k1, by rw [hother b1 hb1b]; exact k2, k3, k4, by simpa using k5, ?_, k7, rfl⟩⟩
   ·have := hs d1 (by simp)
    simp [q1, this]
   ·simp only [RepL]
    exact ⟨F', [], x1, [], by simp, by simp, n1, ⟨rfl, rfl⟩⟩
  have hunf : ∀ y, (y ∈ g'.φ id ∨ y ∈ F) → Unf (w.setRow b new).heap y := by
   intro y hy
   by_cases ey : y = b
   ·subst ey; exact ⟨_, _, hbb⟩
   ·have : Unf w.heap y := hy.elim (fun hy => T.us.fz y (hφfp y hy)) (fun hy => h.us.fz y (hFF.2 y hy).2.2.2)
    obtain ⟨c3, e3, h3⟩ := this
    exact ⟨c3, e3, by rw [hother y ey]; exact h3⟩
  have hin : ∀ y ∈ b1 :: F', y ∈ g'.φ id ∨ y ∈ F := by
   intro y hy
   rcases List.mem_cons.1 hy with rfl | hy
   ·exact .inl hb1
   ·rcases n3 y hy with hy | hy
    ·exact .inl (by rw [k8]; simp [hy])
    ·exact .inr hy
  have hnd2 : (b1 :: F').Nodup := by
   refine List.nodup_cons.2 ⟨fun hy => ?_, n2⟩
   rcases n3 b1 hy with hy | hy
   ·exact (List.nodup_cons.1 hnd).1 hy
   ·exact (hFF.2 b1 hy).2.2.1 (hφfp b1 hb1)
  obtain ⟨hU2, hV2⟩ := T.us.mutG (h' := (w.setRow b new).heap) hm (by rw [setRow_size]; exact Nat.le_refl _) (fun y _ hy => hother y (fun e => hy (e ▸ hbφ))) (.inr ⟨true, nn, usz, [d1], true, [d2], rfl, rfl, rfl⟩) hnd2
   (fun y hy => ⟨(hin y hy).elim .inl fun hy => .inr ⟨by rw [setRow_size]; exact h.us.lt y (hFF.2 y hy).2.2.2, (hFF.2 y hy).1, (hFF.2 y hy).2.1, (hFF.2 y hy).2.2.1⟩, hunf y (hin y hy)⟩) hok
  have hrun' : (execOp a.eval o).run P w = .ok .skip (w.setRow b new) := by
   simp [execOp, ho, hv, hrun]
  unfold Oper.wp
  rw [hrun', Oper.upon_skip, hd]
  have hs0 := h.sat
  refine ⟨st'.upd id (.ar true nn usz [d2]), T.n, hf, hs0.ms, hs0.dfr, ?_, hs0.base, hs0.os, hs0.tape, hs0.output, ?_, ?_, _, hU2, fun t => killE_rep (fun av v hf hr => hV2 _ _ hf hr) (T.rep t)⟩
  ·show a.tmps.size = _
   rw [hs0.tm]
   exact T.n.symm
  ·rw [setRow_size]; exact hs0.size
  ·intro y hy hmy
   have : y ≠ b := by
    rintro rfl
    exact hmy (T.us.low y (hφfp y hbφ) hy)
   rw [setRow_other w b y _ this]
   exact hs0.old y hy hmy
 ·exact hk.elim

theorem RepL.spl {h : Heap} {es X : List D} {G : List Nat} {cs vc : List Value} {sz off : Nat} (hr : RepL h es G cs) (hs : ∀ d ∈ es, d.size = sz) (hx : RepL h X [] vc) (hl : off + X.length ≤ es.length) (hv : vc.length = X.length * sz) :
  ∃ G2, RepL h (es.take off ++ (X ++ es.drop (off + X.length))) G2 (cs.take (off * sz) ++ (vc ++ cs.drop (off * sz + X.length * sz))) ∧ G2.Sublist G := by
 have e : es = es.take off ++ ((es.drop off).take X.length ++ (es.drop off).drop X.length) := by rw [List.take_append_drop, List.take_append_drop]
 have hr' : RepL h (es.take off ++ ((es.drop off).take X.length ++ (es.drop off).drop X.length)) G cs := by rw [← e]; exact hr
 obtain ⟨F1, F23, c1, c23, rfl, rfl, s1, s23⟩ := hr'.split
 obtain ⟨F2, F3, c2, c3, rfl, rfl, s2, s3⟩ := s23.split
 have l1 : c1.length = off * sz := by
  rw [s1.length, D.sizeL_const (sz := sz) fun d hd => hs d (List.mem_of_mem_take hd), List.length_take, Nat.min_eq_left (by omega)]
 have l2 : c2.length = X.length * sz := by
  rw [s2.length, D.sizeL_const (sz := sz) fun d hd => hs d (List.mem_of_mem_drop (List.mem_of_mem_take hd)), List.length_take, List.length_drop, Nat.min_eq_left (by omega)]
 refine ⟨F1 ++ ([] ++ F3), ?_, ?_⟩
 ·rw [← l1, ← l2]
  have e2 : (c1 ++ (c2 ++ c3)).drop (c1.length + c2.length) = c3 := by rw [← List.append_assoc, ← lP, List.drop_left]
  rw [List.take_left, e2, ← List.drop_drop]
  exact s1.append (hx.append s3)
 ·simp only [List.nil_append]
  exact List.Sublist.append (List.Sublist.refl _) (List.sublist_append_right _ _)

end Go.Ax
namespace Go.Ax
set_option linter.unusedSimpArgs false
variable {P : Program} {n0 : Nat} {S0 M0 : Nat → Prop} {w0 : World}
variable [Gk P n0 M0 w0]
variable {st : St} {o : Oper} {a : Act} {w : World} {k : KQ} {Q' : Exit → Act → World → Prop} {g : Gh}
theorem ag3_val {us : List (Nat × U)} {h : Heap} {av : AV} {v : Value} (hu : USat h n0 S0 M0 us g) (hr : VRep h us g av v) (ho : AV.aggV (lu us) av = true) : ∃ c, v = .agg c := by
 cases av with
 | im t d =>
  cases t with
  | some t => simp [AV.aggV] at ho
  | none =>
   simp only [AV.aggV] at ho
   simp only [VRep] at hr
   obtain ⟨F, r1, r2, r3⟩ := hr
   cases d <;> simp_all [D.fits, D.isAg]
 | tr i =>
  simp only [AV.aggV] at ho
  split at ho
  ·next d hun =>
   have hm := mem_of_lu hun
   simp only [VRep] at hr
   obtain ⟨_, rfl⟩ := hr
   have hU := hu.each _ hm
   simp only [UOk] at hU
   obtain ⟨_, _, p3⟩ := hU
   cases d <;> simp_all [D.fits, D.isAg]
  ·cases ho
 | cw i el j sz agg =>
  simp only [AV.aggV] at ho
  subst ho
  simp only [VRep] at hr
  obtain ⟨_, _, _, _, _, _, _, _, _, _, _, _, _, _, q9⟩ := hr
  exact ⟨_, by simpa using q9⟩
 | sg vs =>
  simp only [VRep] at hr
  obtain ⟨xs, _, rfl⟩ := hr
  exact ⟨_, rfl⟩
 | _ => simp [AV.aggV] at ho
theorem call_postP (h : At n0 S0 M0 w0 st o a w g) {f : Nat} {avs : List AV} {vs : List Value} (hrun : Callable P f → (execOp a.eval o).run P w = .ok (.enter f vs.toArray) w) (hr : VRepL w.heap st.us g avs vs)
  (hq : callP P o.dst f avs st.unit k) : o.wp P a w (QPost n0 S0 M0 w0 st o.dst k) Q' := by
 obtain ⟨hdlow, t0, kk, B, C, rfl, ⟨hcl, hA⟩, hB1, hC1, hk⟩ := hq
 simp only [VRepL] at hr
 obtain ⟨v1, r1, rfl, hv1, v2, r2, rfl, hv2, v3, r3, rfl, hv3, rfl⟩ := hr
 simp only [bA] at hB1 hC1
 obtain ⟨c2, rfl⟩ := ag3_val h.us hv2 hB1.1
 obtain ⟨c3, rfl⟩ := ag3_val h.us hv3 hC1.1
 have z2 := item_ok h.us hv2 hB1.2 (by omega)
 have z3 := item_ok h.us hv3 hC1.2 (by omega)
 have e1 : v1 = .int .i64 kk := by
  simp only [VRep, Rep, D.fits] at hv1
  obtain ⟨F, ⟨_, q1, _⟩, q2, _⟩ := hv1
  rw [cells_one q2] at q1
  simpa using q1
 subst e1
 unfold Oper.wp
 rw [hrun hcl, Oper.upon_enter]
 refine (hA kk c2 c3 w (by simpa [Value.cells] using z2) (by simpa [Value.cells] using z3)).mono ?_
 rintro e w' ⟨⟨x, t, rfl, hx, hx2⟩, hB⟩
 have hs := h.sat
 have hh : ∀ b, b < w.heap.size → w'.heap[b]? = w.heap[b]? := fun b hb => hB.block b hb
 refine ⟨_, _, hk, fun hf => ?_⟩
 generalize hd : o.dst.getD 0 = d at hf hdlow
 have hno : noU d st.us = true := by
  rcases hf with hf | hf
  ·cases hf
  ·simp only [St.fresh, noU, bU] at hf; exact hf
 have hno' := noU_spec hno
 have hxlt : x < w'.heap.size := (Array.getElem?_eq_some_iff.1 hx2).1
 obtain ⟨hU, hV⟩ := h.us.addU (h' := w'.heap) (n := d) hno' (u := .bx 3 [B, C]) (β := some x) (φ := [x]) (root := undef) (cap := 0) hB.size
  (fun b hb => by
   refine hh b ?_
   rcases hb with hb | hb
   ·exact h.us.lt b hb
   ·exact (h.us.sh b hb).1)
  (by simp)
  (fun b hb => by
   simp only [List.mem_singleton] at hb
   subst hb
   refine ⟨hxlt, fun hlt => ?_, fun hS => ?_, fun hF => ?_, _, _, hx2⟩
   ·have := hs.base; have := hs.size; omega
   ·have := (h.us.sh _ hS).1; omega
   ·have := h.us.lt _ hF; omega)
  (fun hg => by
   simp only [UOk, add_self]
   refine ⟨by simp [maxEl], x, c2 ++ c3, t, [.agg c2, .agg c3], [], rfl, hx2, rfl, ?_, ?_, by simp [Value.cells]⟩
   ·simp only [VRepL]
    exact ⟨_, _, rfl, hg _ _ hv2, _, _, rfl, hg _ _ hv3, rfl⟩
   ·intro _ v hv
    simp only [List.mem_cons, List.not_mem_nil, or_false] at hv
    rcases hv with rfl | rfl
    ·exact z2
    ·exact z3) (fun _ => PinAt.low hdlow)
 have hS2 : Sat n0 S0 M0 w0 (st.addUs [(d, U.bx 3 [B, C])]) a w' := by
  refine ⟨hs.ms, hs.dfr, hs.tm, hs.base, hB.os.trans hs.os, hB.tape.trans hs.tape, hB.output.trans hs.output, Nat.le_trans hs.size hB.size, ?_, _, hU, fun t => hV _ _ (h.rep t)⟩
  intro b hb hm
  rw [← hs.old b hb hm]
  exact hh b (by have := hs.base; have := hs.size; omega)
 refine sat_set hS2 hU (fun t => hV _ _ (h.rep t)) h.dst ?_
 simp only [VRep, VRepL]
 refine ⟨[.int .i64 kk, .int .i64 0, .slice (some ⟨x, 0, none⟩) 2 2], ⟨_, _, rfl, ⟨[], ?_, ?_, by simp⟩, _, _, rfl, ⟨[], ?_, ?_, by simp⟩, _, _, rfl, ⟨3, [B, C], x, List.mem_cons_self, rfl, by simp [add_self], rfl⟩, rfl⟩, by simp [Value.cells]⟩
 all_goals simp [Rep, D.fits, Value.cells, Value.oneCell']
theorem call_post (h : At n0 S0 M0 w0 st o a w g) {f : Nat} {avs : List AV} {vs : List Value} (hrun : Callable P f → (execOp a.eval o).run P w = .ok (.enter f vs.toArray) w) (hr : VRepL w.heap st.us g avs vs)
  (hq : callQ P o.dst f avs st.unit k) : o.wp P a w (QPost n0 S0 M0 w0 st o.dst k) Q' :=
 hq.elim (call_post0 h hrun hr) fun hq => hq.elim (call_postT h hrun hr) (call_postP h hrun hr)

theorem s_call (h : At n0 S0 M0 w0 st o a w g) {f : Nat} {c : Call} {Xs : List X} (ho : o.op = .call c) (hc : c.callee = .value (.func f)) (hl : c.args.size = c.argTypes.size)
  (hx : (c.args.toList.zip c.argTypes.toList).mapM (fun p => resX P p.2 p.1) = some Xs) (hq : callQ P o.dst f (Xs.map st.ev) st.unit k) : o.wp P a w (QPost n0 S0 M0 w0 st o.dst k) Q' := by
 refine call_post h (vs := c.args.toList.map a.eval) ?_ (evRepL h.rep (by simpa using hl) hx) hq
 rintro ⟨fn, h1, h2, h3⟩
 have h2' : ¬ fn.body = none := by cases hb : fn.body <;> simp_all
 have h3' : ¬ fn.name = "runtime.NumGoroutine" := by simpa using h3
 have ea : (List.map a.eval c.args.toList).toArray = Array.map a.eval c.args := by apply Array.ext'; simp
 rw [ea]
 simp [execOp, ho, resolve, hc, Act.eval, Deferred.ofValue, invoke, callFunc, h1, h2', h3']

theorem s_calv (h : At n0 S0 M0 w0 st o a w g) {u : TypeId} {c : Call} {x : Operand} {X : Ax.X} {Xs : List Ax.X} (ho : o.op = .call c) (hc : c.callee = .value x) (hX : resX P u x = some X) (hl : c.args.size = c.argTypes.size)
  (hx : (c.args.toList.zip c.argTypes.toList).mapM (fun p => resX P p.2 p.1) = some Xs) (hq : calvK (st.ev X) P o.dst (Xs.map st.ev) st.unit k) : o.wp P a w (QPost n0 S0 M0 w0 st o.dst k) Q' := by
 have ex := h.ev_ hX
 unfold calvK at hq
 split at hq
 ·next t f e1 =>
  rw [e1] at ex
  have hv := sc_val ex
  refine call_post h (vs := c.args.toList.map a.eval) ?_ (evRepL h.rep (by simpa using hl) hx) hq
  rintro ⟨fn, h1, h2, h3⟩
  have h2' : ¬ fn.body = none := by cases hb : fn.body <;> simp_all
  have h3' : ¬ fn.name = "runtime.NumGoroutine" := by simpa using h3
  have ea : (List.map a.eval c.args.toList).toArray = Array.map a.eval c.args := by apply Array.ext'; simp
  rw [ea]
  simp [execOp, ho, resolve, hc, hv, Deferred.ofValue, invoke, callFunc, h1, h2', h3']
 ·next t f ds e1 =>
  rw [e1] at ex
  simp only [VRep, Rep, D.fits] at ex
  obtain ⟨F, ⟨vs, q1, q2⟩, hf, hok⟩ := ex
  rw [cells_one hf] at q1
  have hv : a.eval x = .func (.func f) #[] ⟨vs⟩ := by simpa using q1
  refine call_post h (vs := c.args.toList.map a.eval ++ vs) ?_ (VRepL_app9 (evRepL h.rep (by simpa using hl) hx) (repV_ims q2 hok)) hq
  rintro ⟨fn, h1, h2, h3⟩
  have h2' : ¬ fn.body = none := by cases hb : fn.body <;> simp_all
  have h3' : ¬ fn.name = "runtime.NumGoroutine" := by simpa using h3
  have ea : (List.map a.eval c.args.toList ++ vs).toArray = Array.map a.eval c.args ++ ⟨vs⟩ := by apply Array.ext'; simp
  rw [ea]
  simp [execOp, ho, resolve, hc, hv, Deferred.ofValue, invoke, callFunc, h1, h2', h3']
 ·next f avs e1 =>
  rw [e1] at ex
  simp only [VRep] at ex
  obtain ⟨vs, q2, hv⟩ := ex
  refine call_post h (vs := c.args.toList.map a.eval ++ vs) ?_ (VRepL_app9 (evRepL h.rep (by simpa using hl) hx) q2) hq
  rintro ⟨fn, h1, h2, h3⟩
  have h2' : ¬ fn.body = none := by cases hb : fn.body <;> simp_all
  have h3' : ¬ fn.name = "runtime.NumGoroutine" := by simpa using h3
  have ea : (List.map a.eval c.args.toList ++ vs).toArray = Array.map a.eval c.args ++ ⟨vs⟩ := by apply Array.ext'; simp
  rw [ea]
  simp [execOp, ho, resolve, hc, hv, Deferred.ofValue, invoke, callFunc, h1, h2', h3']
 ·exact hq.elim

end Go.Ax
namespace Go.Ax
set_option linter.unusedSimpArgs false

variable {P : Program} {n0 : Nat} {S0 M0 : Nat → Prop} {w0 : World}
variable [Gk P n0 M0 w0]
variable {st : St} {o : Oper} {a : Act} {w : World} {k : KQ} {Q' : Exit → Act → World → Prop} {g : Gh}

theorem mem_wids : ∀ {us : List U} {n : Nat} {x : Nat × U}, x ∈ wids n us ↔ ∃ i u, us[i]? = some u ∧ x = (3000000000 + (n + i), u)
 | [], n, x => by simp [wids]
 | v :: r, n, x => by
  simp only [wids, List.mem_cons, mem_wids]
  constructor
  ·rintro (rfl | ⟨i, u, h1, h2⟩)
   ·exact ⟨0, _, rfl, rfl⟩
   ·exact ⟨i + 1, u, by simpa using h1, by rw [h2]; congr 1; omega⟩
  ·rintro ⟨i, u, h1, h2⟩
   cases i with
   | zero => simp at h1; subst h1; exact .inl h2
   | succ i => exact .inr ⟨i, u, by simpa using h1, by rw [h2]; congr 1; omega⟩
theorem wids_keys {us : List U} {n k : Nat} : k ∈ (wids n us).map (·.1) ↔ ∃ i, i < us.length ∧ k = 3000000000 + (n + i) := by
 simp only [List.mem_map]
 constructor
 ·rintro ⟨x, hx, rfl⟩
  obtain ⟨i, u, h1, rfl⟩ := mem_wids.1 hx
  exact ⟨i, (List.getElem?_eq_some_iff.1 h1).1, rfl⟩
 ·rintro ⟨i, h1, rfl⟩
  exact ⟨_, mem_wids.2 ⟨i, us[i], by simp [h1], rfl⟩, rfl⟩
theorem wids_nodup : ∀ {us : List U} {n : Nat}, ((wids n us).map (·.1)).Nodup
 | [], _ => by simp [wids]
 | v :: r, n => by
  simp only [wids, lC, List.nodup_cons]
  refine ⟨fun h => ?_, wids_nodup⟩
  obtain ⟨i, _, h2⟩ := wids_keys.1 h
  omega

def likeW (u u' : U) : Prop :=
 match u, u' with
 | .ar _ _ sz es, .ar _ _ sz' es' => sz' = sz ∧ es'.length = es.length
 | .bx sz items, .bx sz' items' => sz' = sz ∧ items'.length = items.length
 | _, _ => False

structure KeepW (k1 k2 : List Nat) (f : AV → Bool) (h h' : Heap) (us us' : List (Nat × U)) (g g' : Gh) : Prop where
 hf : ∀ av, f av = false → (∀ k ∈ k1, av.soft k = false) ∧ (∀ k ∈ k2, av.refs k = false)
 mem : ∀ i u, (i, u) ∈ us → i ∉ k1 → i ∉ k2 → (i, u.kill f) ∈ us'
 β : ∀ i, g'.β i = g.β i ∧ g'.root i = g.root i ∧ g'.cap i = g.cap i
 blk : ∀ i u b, (i, u) ∈ us → i ∉ k1 → i ∉ k2 → g.β i = some b → h'[b]? = h[b]?
 im : ∀ t d F cs, (∀ k ∈ k1, t ≠ some k) → (∀ k ∈ k2, t ≠ some k) → Rep h d F cs → (∀ b ∈ F, g.ok t b) → Rep h' d F cs ∧ ∀ b ∈ F, g'.ok t b
 ar : ∀ i ∈ k1, ∃ u u', (∀ v, (i, v) ∈ us → v = u) ∧ (i, u') ∈ us' ∧ likeW u u'
theorem KeepW.arr {k1 k2 : List Nat} {f : AV → Bool} {h h' : Heap} {us us' : List (Nat × U)} {g g' : Gh} (H : KeepW k1 k2 f h h' us us' g g') {i : Nat} {ow : Bool} {nn : Option Bool} {sz : Nat} {es : List D} (hm : (i, U.ar ow nn sz es) ∈ us) (h2 : i ∉ k2) :
  ∃ ow' nn' es', (i, U.ar ow' nn' sz es') ∈ us' ∧ es'.length = es.length := by
 by_cases e : i ∈ k1
 ·obtain ⟨u, u', q1, q2, q3⟩ := H.ar i e
  have := q1 _ hm
  subst this
  cases u' with
  | ar ow' nn' sz' es' => simp only [likeW] at q3; obtain ⟨rfl, q3⟩ := q3; exact ⟨_, _, _, q2, q3⟩
  | _ => simp [likeW] at q3
 ·exact ⟨_, _, _, H.mem _ _ hm e h2, rfl⟩
theorem KeepW.box {k1 k2 : List Nat} {f : AV → Bool} {h h' : Heap} {us us' : List (Nat × U)} {g g' : Gh} (H : KeepW k1 k2 f h h' us us' g g') {i : Nat} {sz : Nat} {items : List AV} (hm : (i, U.bx sz items) ∈ us) (h2 : i ∉ k2) :
  ∃ items', (i, U.bx sz items') ∈ us' ∧ items'.length = items.length := by
 by_cases e : i ∈ k1
 ·obtain ⟨u, u', q1, q2, q3⟩ := H.ar i e
  have := q1 _ hm
  subst this
  cases u' with
  | bx sz' items' => simp only [likeW] at q3; obtain ⟨rfl, q3⟩ := q3; exact ⟨_, q2, q3⟩
  | _ => simp [likeW] at q3
 ·exact ⟨_, H.mem _ _ hm e h2, killL_length⟩
theorem KeepW.sbu {k1 k2 : List Nat} {f : AV → Bool} {h h' : Heap} {us us' : List (Nat × U)} {g g' : Gh} (H : KeepW k1 k2 f h h' us us' g g') {i : Nat} {T E : Nat} {s : ByteArray} (hm : (i, U.sb T E s) ∈ us) (h2 : i ∉ k2) :
  (i, U.sb T E s) ∈ us' := by
 by_cases e : i ∈ k1
 ·obtain ⟨u, u', q1, q2, q3⟩ := H.ar i e
  have := q1 _ hm
  subst this
  cases u' <;> simp [likeW] at q3
 ·exact H.mem _ _ hm e h2

mutual
theorem VRep.keepW {k1 k2 : List Nat} {f : AV → Bool} {h h' : Heap} {us us' : List (Nat × U)} {g g' : Gh} (H : KeepW k1 k2 f h h' us us' g g') : ∀ {av : AV} {v : Value}, (∀ k ∈ k1, av.soft k = false) → (∀ k ∈ k2, av.refs k = false) → VRep h us g av v → VRep h' us' g' av v
 | .im t d, v, hf, hf2, hr => by
  simp only [AV.soft, beq_eq_false_iff_ne] at hf
  simp only [AV.refs, beq_eq_false_iff_ne] at hf2
  simp only [VRep] at hr ⊢
  obtain ⟨F, h1, h2, h3⟩ := hr
  obtain ⟨q1, q2⟩ := H.im t d F _ hf hf2 h1 h3
  exact ⟨F, q1, h2, q2⟩
 | .tr i, v, hf, hf2, hr => by
  have h2 : i ∉ k2 := fun e => by have := hf2 i e; simp [AV.refs] at this
  simp only [VRep] at hr ⊢
  obtain ⟨⟨d, hd⟩, hv⟩ := hr
  by_cases e : i ∈ k1
  ·obtain ⟨u, u', q1, _, q3⟩ := H.ar i e
   rw [← q1 _ hd] at q3
   simp [likeW] at q3
  ·exact ⟨⟨d, H.mem _ _ hd e h2⟩, by rw [(H.β i).2.1]; exact hv⟩
 | .pw i el j, v, hf, hf2, hr => by
  have h2 : i ∉ k2 := fun e => by have := hf2 i e; simp [AV.refs] at this
  simp only [VRep] at hr ⊢
  obtain ⟨ow, nn, sz, es, b, r1, r2, r3, r4, r5⟩ := hr
  obtain ⟨ow', nn', es', q1, q2⟩ := H.arr r1 h2
  exact ⟨ow', nn', sz, es', b, q1, by omega, r3, by rw [(H.β i).1]; exact r4, r5⟩
 | .cw i el j sz agg, v, hf, hf2, hr => by
  have h1 : i ∉ k1 := fun e => by have := hf i e; simp [AV.soft] at this
  have h2 : i ∉ k2 := fun e => by have := hf2 i e; simp [AV.refs] at this
  simp only [VRep] at hr ⊢
  obtain ⟨nn, usz, es, b, c, e, r1, r2, r3, r4, r5, r6⟩ := hr
  exact ⟨nn, usz, es, b, c, e, H.mem _ _ r1 h1 h2, r2, r3, by rw [(H.β i).1]; exact r4, by rw [H.blk i _ b r1 h1 h2 r4]; exact r5, r6⟩
 | .sm i off len, v, hf, hf2, hr => by
  have h2 : i ∉ k2 := fun e => by have := hf2 i e; simp [AV.refs] at this
  simp only [VRep] at hr ⊢
  obtain ⟨ow, nn, sz, es, r1, r2, r3⟩ := hr
  rw [← (H.β i).1, ← (H.β i).2.2] at r3
  obtain ⟨ow', nn', es', q1, q2⟩ := H.arr r1 h2
  exact ⟨ow', nn', sz, es', q1, by omega, r3⟩
 | .vb i len, v, hf, hf2, hr => by
  have h2 : i ∉ k2 := fun e => by have := hf2 i e; simp [AV.refs] at this
  simp only [VRep] at hr ⊢
  obtain ⟨sz, items, b, r1, r2, r3, r4⟩ := hr
  obtain ⟨items', q1, q2⟩ := H.box r1 h2
  exact ⟨sz, items', b, q1, by omega, by rw [(H.β i).1]; exact r3, r4⟩
 | .sg vs, v, hf, hf2, hr => by
  simp only [AV.soft] at hf
  simp only [AV.refs] at hf2
  simp only [VRep] at hr ⊢
  obtain ⟨xs, h1, h2⟩ := hr
  exact ⟨xs, VRepL.keepW H hf hf2 h1, h2⟩
 | .tup vs, v, hf, hf2, hr => by
  simp only [AV.soft] at hf
  simp only [AV.refs] at hf2
  simp only [VRep] at hr ⊢
  obtain ⟨xs, h1, h2⟩ := hr
  exact ⟨xs, h1, VRepL.keepW H hf hf2 h2⟩
 | .any, _, _, _, _ => by simp [VRep]
 | .cl f vs, v, hf, hf2, hr => by
  simp only [AV.soft] at hf
  simp only [AV.refs] at hf2
  simp only [VRep] at hr ⊢
  obtain ⟨xs, h1, h2⟩ := hr
  exact ⟨xs, VRepL.keepW H hf hf2 h1, h2⟩
 | .pq i el j isz el' j', v, hf, hf2, hr => by
  have h1 : i ∉ k1 := fun e => by have := hf i e; simp [AV.soft] at this
  have h2 : i ∉ k2 := fun e => by have := hf2 i e; simp [AV.refs] at this
  simp only [VRep] at hr ⊢
  obtain ⟨ow, nn, usz, es, b, c, e, b', off', len', cap', r1, r2, r3, r4, r5, r6⟩ := hr
  exact ⟨ow, nn, usz, es, b, c, e, b', off', len', cap', H.mem _ _ r1 h1 h2, r2, r3, by rw [(H.β i).1]; exact r4, by rw [H.blk i _ b r1 h1 h2 r4]; exact r5, r6⟩
 | .qs i el j isz off len, v, hf, hf2, hr => by
  have h1 : i ∉ k1 := fun e => by have := hf i e; simp [AV.soft] at this
  have h2 : i ∉ k2 := fun e => by have := hf2 i e; simp [AV.refs] at this
  simp only [VRep] at hr ⊢
  obtain ⟨ow, nn, usz, es, b, c, e, p, len', cap', r1, r2, r3, r4, r5, r6⟩ := hr
  exact ⟨ow, nn, usz, es, b, c, e, p, len', cap', H.mem _ _ r1 h1 h2, r2, r3, by rw [(H.β i).1]; exact r4, by rw [H.blk i _ b r1 h1 h2 r4]; exact r5, r6⟩
 | .ss i off len, v, hf, hf2, hr => by
  have h2 : i ∉ k2 := fun e => by have := hf2 i e; simp [AV.refs] at this
  simp only [VRep] at hr ⊢
  obtain ⟨ow, nn, sz, es, r1, r2, r3⟩ := hr
  rw [← (H.β i).1, ← (H.β i).2.2] at r3
  obtain ⟨ow', nn', es', q1, q2⟩ := H.arr r1 h2
  exact ⟨ow', nn', sz, es', q1, by omega, r3⟩
 | .z0 _ _, v, _, _, hr => by simpa [VRep] using hr
 | .pb i j, v, hf, hf2, hr => by
  have h2 : i ∉ k2 := fun e => by have := hf2 i e; simp [AV.refs] at this
  simp only [VRep] at hr ⊢
  obtain ⟨sz, items, b, r1, r2, r3⟩ := hr
  obtain ⟨items', q1, q2⟩ := H.box r1 h2
  exact ⟨sz, items', b, q1, by rw [(H.β i).1]; exact r2, r3⟩
 | .ps i, v, hf, hf2, hr => by
  have h2 : i ∉ k2 := fun e => by have := hf2 i e; simp [AV.refs] at this
  simp only [VRep] at hr ⊢
  obtain ⟨T, E, s, b, r1, r2, r3⟩ := hr
  exact ⟨T, E, s, b, H.sbu r1 h2, by rw [(H.β i).1]; exact r2, r3⟩
theorem VRepL.keepW {k1 k2 : List Nat} {f : AV → Bool} {h h' : Heap} {us us' : List (Nat × U)} {g g' : Gh} (H : KeepW k1 k2 f h h' us us' g g') : ∀ {as : List AV} {vs : List Value}, (∀ k ∈ k1, AV.softL k as = false) → (∀ k ∈ k2, AV.refsL k as = false) → VRepL h us g as vs → VRepL h' us' g' as vs
 | [], _, _, _, hr => by simpa [VRepL] using hr
 | a :: as, vs, hf, hf2, hr => by
  simp only [AV.softL, Bool.or_eq_false_iff] at hf
  simp only [AV.refsL, Bool.or_eq_false_iff] at hf2
  simp only [VRepL] at hr ⊢
  obtain ⟨v, r, h1, h2, h3⟩ := hr
  exact ⟨v, r, h1, VRep.keepW H (fun k hk => (hf k hk).1) (fun k hk => (hf2 k hk).1) h2, VRepL.keepW H (fun k hk => (hf k hk).2) (fun k hk => (hf2 k hk).2) h3⟩
end
theorem KeepW.rep {k1 k2 : List Nat} {f : AV → Bool} {h h' : Heap} {us us' : List (Nat × U)} {g g' : Gh} (H : KeepW k1 k2 f h h' us us' g g') (av : AV) (v : Value) (hf : f av = false) (hr : VRep h us g av v) : VRep h' us' g' av v :=
 VRep.keepW H (H.hf av hf).1 (H.hf av hf).2 hr

theorem nodup_flat {g : Gh} : ∀ {us : List (Nat × U)}, (us.map (·.1)).Nodup → (∀ x ∈ us, (g.φ x.1).Nodup) → (∀ x ∈ us, ∀ y ∈ us, ∀ b, b ∈ g.φ x.1 → b ∈ g.φ y.1 → x.1 = y.1) → (fp g us).Nodup
 | [], _, _, _ => by simp [fp]
 | x :: us, hk, h1, h2 => by
  simp only [lC, List.nodup_cons] at hk
  simp only [fp, List.flatMap_cons, List.nodup_append]
  refine ⟨h1 x (by simp), nodup_flat hk.2 (fun y hy => h1 y (by simp [hy])) (fun y hy z hz => h2 y (by simp [hy]) z (by simp [hz])), ?_⟩
  rintro b hb c hc rfl
  obtain ⟨y, hy, hby⟩ := mem_fp.1 hc
  exact hk.1 (List.mem_map.2 ⟨y, hy, (h2 x (by simp) y (by simp [hy]) b hb hby).symm⟩)

theorem UOk.keepW {k1 k2 : List Nat} {f : AV → Bool} {h h' : Heap} {us us' : List (Nat × U)} {g g' : Gh} (H : KeepW k1 k2 f h h' us us' g g') {i : Nat} {u : U} (hm : (i, u) ∈ us) (hi1 : i ∉ k1) (hi2 : i ∉ k2) (hφ : g'.φ i = g.φ i) (hF : ∀ x ∈ g.φ i, h'[x]? = h[x]?)
  (hS : ∀ x, g.Sh x → g'.Sh x ∧ h'[x]? = h[x]?) (ho : UOk h us g i u) : UOk h' us' g' i (u.kill f) := by
 obtain ⟨e1, e2, e3⟩ := H.β i
 cases u with
 | own d =>
  simp only [UOk, U.kill] at ho ⊢
  obtain ⟨h1, h2, h3⟩ := ho
  rw [e1, e2, hφ]
  exact ⟨h1, h2.frame hF, h3⟩
 | ar ow nn sz es =>
  simp only [UOk, U.kill] at ho ⊢
  rw [e1, e3, hφ]
  obtain ⟨h1, h2, h3⟩ := ho
  refine ⟨h1, h2, ?_⟩
  rcases h3 with h3 | ⟨b, c, e, G, cs, rest, k1, k2, k3, k4, k5, k6, k7, k8⟩
  ·exact .inl h3
  ·refine .inr ⟨b, c, e, G, cs, rest, k1, by rw [H.blk i _ b hm hi1 hi2 k1]; exact k2, k3, k4, k5, k6.frame fun x hx => ?_, k7, ?_⟩
   ·cases ow with
    | true => simp only [if_true] at k8; exact hF x (by rw [k8]; simp [hx])
    | false => simp only [bF, if_false] at k8; exact (hS x (k8.2 x hx)).2
   ·cases ow with
    | true => simpa using k8
    | false => simp only [bF, if_false] at k8 ⊢; exact ⟨k8.1, fun x hx => (hS x (k8.2 x hx)).1⟩
 | bx sz items =>
  simp only [UOk, U.kill] at ho ⊢
  rw [e1, hφ]
  obtain ⟨h1, b, c, e, vs, rest, k1, k2, k3, k4, k5⟩ := ho
  exact ⟨by rw [killL_length]; exact h1, b, c, e, vs, rest, k1, by rw [H.blk i _ b hm hi1 hi2 k1]; exact k2, k3, killL_rep H.rep k4, k5⟩
 | sb T E s =>
  simp only [UOk, U.kill] at ho ⊢
  rw [e1, hφ]
  obtain ⟨b, F, k1, k2, k3⟩ := ho
  exact ⟨b, F, k1, k2, k3.frame fun x hx => hF x (by rw [k2]; exact hx)⟩

def calleeF (ids : List Nat) (k : Nat) : Option Nat := if 3000000000 ≤ k then ids[k - 3000000000]? else none
def Gh.callee (g : Gh) (ids : List Nat) (sh : Nat → Prop) : Gh :=
  ⟨fun k => (calleeF ids k).bind g.β, fun k => match calleeF ids k with | some i => g.φ i | none => [], fun k => match calleeF ids k with | some i => g.root i | none => undef,
   fun k => match calleeF ids k with | some i => g.cap i | none => 0, sh⟩

end Go.Ax
namespace Go.Ax
set_option linter.unusedSimpArgs false

variable {P : Program} {n0 : Nat} {S0 M0 : Nat → Prop} {w0 : World}
variable [Gk P n0 M0 w0]
variable {st : St} {o : Oper} {a : Act} {w : World} {k : KQ} {Q' : Exit → Act → World → Prop} {g : Gh}

theorem USat.sbu {h h' : Heap} {us : List (Nat × U)} (hu : USat h n0 S0 M0 us g) {k T E : Nat} {s s' : ByteArray} (hm : (k, U.sb T E s) ∈ us) {b : Nat} {F F' : List Nat} (hb : g.β k = some b) (hφ0 : g.φ k = b :: F)
  (hsz : h.size ≤ h'.size) (hh : ∀ x, x < h.size → x ∉ b :: F → h'[x]? = h[x]?) (hs : SbAt h' T E s' b F') (hbF : b ∉ F') (hF : ∀ x ∈ F', x ∈ F ∨ h.size ≤ x) (hn0 : n0 ≤ h.size) :
  USat h' n0 S0 M0 ((k, .sb T E s') :: killU k (AV.soft k) us) (g.fp1 k (b :: F')) ∧ ∀ av v, av.soft k = false → VRep h us g av v → VRep h' ((k, .sb T E s') :: killU k (AV.soft k) us) (g.fp1 k (b :: F')) av v := by
 have hφo : ∀ i, i ≠ k → (g.fp1 k (b :: F')).φ i = g.φ i := fun i hi => by simp [Gh.fp1, hi]
 have hφk : (g.fp1 k (b :: F')).φ k = b :: F' := by simp [Gh.fp1]
 have hkfp : ∀ x ∈ g.φ k, x ∈ fp g us := fun x hx => mem_fp.2 ⟨_, hm, hx⟩
 have hoth : ∀ i v, (i, v) ∈ us → i ≠ k → ∀ x ∈ g.φ i, h'[x]? = h[x]? := by
  intro i v h1 h2 x hx
  exact hh x (hu.lt x (mem_fp.2 ⟨_, h1, hx⟩)) fun hxk => h2 (fp_apart hu.keys hu.nodup h1 hm hx (by rw [hφ0]; exact hxk))
 have hSh : ∀ x, g.Sh x → h'[x]? = h[x]? := fun x hx => hh x (hu.sh x hx).1 fun hxk => (hu.sh x hx).2.2 (hkfp x (by rw [hφ0]; exact hxk))
 have hnew : ∀ x ∈ b :: F', x ∈ g.φ k ∨ h.size ≤ x := by
  intro x hx
  rw [hφ0]
  rcases List.mem_cons.1 hx with rfl | hx
  ·exact .inl (by simp)
  ·rcases hF x hx with h1 | h1
   ·exact .inl (by simp [h1])
   ·exact .inr h1
 have H : KeepM k (AV.soft k) h h' us ((k, .sb T E s') :: killU k (AV.soft k) us) g (g.fp1 k (b :: F')) := by
  refine { mem := fun i u h1 h2 => List.mem_cons_of_mem _ (mem_killU h1 h2), β := fun i hi => ⟨rfl, rfl, rfl⟩, blk := ?_, im := ?_, own := ?_, ar := ?_, bx := ?_, sb := ?_, same := ⟨rfl, rfl, rfl⟩ }
  ·intro i u x h1 h2 h3
   exact hoth i u h1 h2 x ((hu.each _ h1).block_mem h3)
  ·intro t d F cs ht hr hok
   have hx : ∀ x ∈ F, h'[x]? = h[x]? := by
    intro x hx
    rcases hok x hx with h1 | ⟨i, rfl, h1, _⟩
    ·exact hSh x h1
    ·obtain ⟨v, hv⟩ := hu.live h1
     exact hoth i v hv (by rintro rfl; exact ht rfl) x h1
   refine ⟨hr.frame hx, fun x hx => ?_⟩
   rcases hok x hx with h1 | ⟨i, rfl, h1, h2⟩
   ·exact .inl h1
   ·exact .inr ⟨i, rfl, by rw [hφo i (by rintro rfl; exact ht rfl)]; exact h1, h2⟩
  ·intro d hd
   have := hu.uniq hm hd; cases this
  ·intro ow nn sz es hd
   have := hu.uniq hm hd; cases this
  ·intro sz items hd
   have := hu.uniq hm hd; cases this
  ·intro T1 E1 s1 hd
   have := hu.uniq hm hd
   injection this with z1 z2 z3
   subst z1 z2 z3
   exact ⟨s', by simp⟩
 have hV : ∀ av v, av.soft k = false → VRep h us g av v → VRep h' ((k, .sb T E s') :: killU k (AV.soft k) us) (g.fp1 k (b :: F')) av v := fun av v hf hr => VRep.keepM H hf hr
 have hsub := fp_killU (f := AV.soft k) hφo (us := us)
 have hfp : fp (g.fp1 k (b :: F')) ((k, .sb T E s') :: killU k (AV.soft k) us) = (b :: F') ++ fp (g.fp1 k (b :: F')) (killU k (AV.soft k) us) := by
  simp only [fp, List.flatMap_cons, hφk]
 have hfpk : ∀ x ∈ fp (g.fp1 k (b :: F')) (killU k (AV.soft k) us), ∃ y ∈ us, y.1 ≠ k ∧ x ∈ g.φ y.1 := by
  intro x hx
  obtain ⟨y, hy, hxy⟩ := mem_fp.1 hx
  obtain ⟨hne, u, h1, h2⟩ := of_mem_killU hy
  exact ⟨_, h1, hne, by rw [hφo _ hne] at hxy; exact hxy⟩
 have hall : ∀ x ∈ fp (g.fp1 k (b :: F')) ((k, .sb T E s') :: killU k (AV.soft k) us), x ∈ fp g us ∨ h.size ≤ x := by
  intro x hx
  rw [hfp] at hx
  rcases List.mem_append.1 hx with hx | hx
  ·exact (hnew x hx).imp (hkfp x) id
  ·exact .inl (hsub.subset hx)
 have hlt' := hs.lt
 refine ⟨⟨?_, ?_, ?_, ?_, ?_, ?_, ?_, ?_, hu.pin.keepU hm (fun _ => ⟨rfl, rfl⟩) (fun _ => rfl)⟩, hV⟩
 ·simp only [lC, List.nodup_cons, keys_killU]
  exact ⟨by simp [List.mem_filter], hu.keys.filter _⟩
 ·rw [hfp, List.nodup_append]
  refine ⟨List.nodup_cons.2 ⟨hbF, hs.nd⟩, hsub.nodup hu.nodup, ?_⟩
  rintro x hx y hy rfl
  obtain ⟨z, hz, hne, hxz⟩ := hfpk x hy
  rcases hnew x hx with h1 | h1
  ·exact hne (fp_apart hu.keys hu.nodup hz hm hxz h1)
  ·have := hu.lt x (mem_fp.2 ⟨z, hz, hxz⟩)
   omega
 ·intro x hx
  rw [hfp] at hx
  rcases List.mem_append.1 hx with hx | hx
  ·exact hlt' x hx
  ·have := hu.lt x (hsub.subset hx); omega
 ·intro x hx hlt
  rcases hall x hx with h1 | h1
  ·exact hu.low x h1 hlt
  ·omega
 ·intro i hi
  simp only [lC, List.mem_cons, not_or, keys_killU] at hi
  rw [hφo i hi.1]
  exact hu.dead i fun hmm => hi.2 (by simp [List.mem_filter, hmm, hi.1])
 ·intro x hx
  have hx : g.Sh x := hx
  obtain ⟨q1, q2, q3⟩ := hu.sh x hx
  exact ⟨by omega, q2, fun h1 => (hall x h1).elim q3 (by omega)⟩
 ·intro x hx
  rcases List.mem_cons.1 hx with rfl | hx
  ·simp only [UOk]
   exact ⟨b, F', hb, hφk, hs⟩
  ·obtain ⟨hne, u, h1, h2⟩ := of_mem_killU hx
   rw [h2]
   exact (hu.each _ h1).keepR H.toKeep (fun av hf => .inr fun v hr => hV av v hf hr) h1 hne (hφo _ hne) (fun x hx => hoth _ _ h1 hne x hx) (fun x hx => ⟨hx, hSh x hx⟩)
 ·intro x hx
  rw [hfp] at hx
  rcases List.mem_append.1 hx with hx | hx
  ·obtain ⟨ad, bv, h1, _, h3⟩ := hs
   rcases List.mem_cons.1 hx with rfl | hx
   ·exact ⟨_, _, h1⟩
   ·rcases h3 with ⟨_, _, rfl⟩ | ⟨gb, cap, cur, _, rfl, h4, _⟩
    ·cases hx
    ·simp only [List.mem_singleton] at hx
     subst hx
     exact ⟨_, _, h4⟩
  ·obtain ⟨z, hz, hne, hxz⟩ := hfpk x hx
   obtain ⟨c, e, hc⟩ := hu.fz x (mem_fp.2 ⟨z, hz, hxz⟩)
   exact ⟨c, e, by rw [hoth z.1 z.2 hz hne x hxz]; exact hc⟩

theorem s_stS (h : At n0 S0 M0 w0 st o a w g) {t u1 u2 : TypeId} {sz : Nat} {p x : Operand} {A X : Ax.X} {f : St → Prop} (ho : o.op = .store t p x) (hd : o.dst = none) (hp : resX P u1 p = some A) (hx : resX P u2 x = some X)
  (hz : szOf P t = some sz) {id : Nat} (eA : st.ev A = .ps id) (hq : stS (st.unit id) id sz (st.ev X) st f) : o.wp P a w (EPost n0 S0 M0 w0 st.n f) Q' := by
 have ep := h.ev_ hp
 have ex := h.ev_ hx
 have hs := h.sat
 have hb0 : n0 ≤ w.heap.size := by rw [hs.base]; exact hs.size
 rw [eA] at ep
 unfold stS at hq
 split at hq
 ·next T E s hun =>
  obtain ⟨⟨rfl, hzx⟩, hk⟩ := hq
  have hm := mem_of_lu hun
  have hU := h.us.each _ hm
  simp only [UOk] at hU
  obtain ⟨b, F, k1, k2, k3⟩ := hU
  simp only [VRep] at ep
  obtain ⟨T', E', s', b', x1, x2, hv⟩ := ep
  rw [k1] at x2
  obtain rfl := Option.some.inj x2
  have hcs : (a.eval x).cells.toList = [.pointer none, .slice none 0 0] := by
   unfold zeroSb at hzx
   split at hzx
   ·next t1 t2 q e1 =>
    rw [e1] at ex
    simp only [VRep, VRepL] at ex
    obtain ⟨xs, ⟨v1, r1, rfl, q1, v2, r2, rfl, q2, rfl⟩, hv2⟩ := ex
    obtain ⟨F1, g1, g2, _⟩ := q1
    obtain ⟨F2, g3, g4, _⟩ := q2
    simp only [Rep] at g1
    have e3 : v2.cells.toList = [.slice none 0 0] := by
     unfold Rep at g3
     rcases g3 with ⟨p, z1, _, _, _, z2⟩ | ⟨_, _, _, _, _, _, _, _, _, z3, _⟩
     ·cases p with
      | none => exact z1
      | some p => exact absurd rfl (z2 rfl)
     ·exact absurd rfl z3
    rw [hv2]
    simp [Value.cells] at g1 e3 ⊢
    rw [g1.2.1, e3]
    rfl
   ·cases hzx
  obtain ⟨ad, bv, y1, y2, y3⟩ := k3
  have hkfp : ∀ x ∈ b :: F, x ∈ fp g st.us := fun x hx => mem_fp.2 ⟨_, hm, by rw [k2]; exact hx⟩
  have hrun := run_st (P := P) (w := w) hz (b := b) (off := 0) (v := a.eval x) (by have := congrArg List.length hcs; simpa using this) y1 (by simp) (by rw [hcs]; simp [Value.oneCell'])
  have hc' : ((#[ad, bv] : Array Value).toList.take 0 ++ (a.eval x).cells.toList ++ (#[ad, bv] : Array Value).toList.drop (0 + 2)).toArray = #[.pointer none, .slice none 0 0] := by rw [hcs]; rfl
  rw [hc'] at hrun
  have hr1 := setRow_heap w b #[ad, bv] #[.pointer none, .slice none 0 0] T (0, 0) y1
  obtain ⟨hU2, hV2⟩ := h.us.sbu (h' := (w.setRow b #[.pointer none, .slice none 0 0]).heap) (s' := ⟨#[]⟩) (F' := []) hm k1 k2 (by rw [setRow_size]; exact Nat.le_refl _) (fun x _ hxF => setRow_other w b x _ (fun e => hxF (by simp [e])))
   ⟨.pointer none, .slice none 0 0, hr1, .inl rfl, .inl ⟨rfl, rfl, rfl⟩⟩ (by simp) (by simp) hb0
  unfold Oper.wp
  have hrun' : (execOp a.eval o).run P w = .ok .skip (w.setRow b #[.pointer none, .slice none 0 0]) := by
   simp [execOp, ho, hv, hrun]
  rw [hrun', Oper.upon_skip, hd]
  refine ⟨st.upd id (.sb T E ⟨#[]⟩), rfl, hk, hs.ms, hs.dfr, hs.tm, hs.base, hs.os, hs.tape, hs.output, ?_, ?_, _, hU2, fun t => killE_rep (fun av v hf hr => hV2 av v hf hr) (h.rep t)⟩
  ·rw [setRow_size]; exact hs.size
  ·intro y hy hmy
   rw [setRow_other w b y _ (fun e => hmy (by subst e; exact h.us.low y (hkfp y (by simp)) hy))]
   exact hs.old y hy hmy
 ·exact hq.elim

end Go.Ax
namespace Go.Ax
set_option linter.unusedSimpArgs false

variable {P : Program} {n0 : Nat} {S0 M0 : Nat → Prop} {w0 : World}
variable [Gk P n0 M0 w0]
variable {st : St} {o : Oper} {a : Act} {w : World} {k : KQ} {Q' : Exit → Act → World → Prop} {g : Gh}

mutual
theorem soft_refs {k : Nat} : ∀ {av : AV}, av.refs k = false → av.soft k = false
 | .im _ _, h => by simpa [AV.refs, AV.soft] using h
 | .cw _ _ _ _ _, h => by simpa [AV.refs, AV.soft] using h
 | .sg _, h => by simp only [AV.refs] at h; simp only [AV.soft]; exact softL_refs h
 | .tup _, h => by simp only [AV.refs] at h; simp only [AV.soft]; exact softL_refs h
 | .cl _ _, h => by simp only [AV.refs] at h; simp only [AV.soft]; exact softL_refs h
 | .pq _ _ _ _ _ _, h => by simpa [AV.refs, AV.soft] using h
 | .qs _ _ _ _ _ _, h => by simpa [AV.refs, AV.soft] using h
 | .tr _, _ => by simp [AV.soft]
 | .pw _ _ _, _ => by simp [AV.soft]
 | .sm _ _ _, _ => by simp [AV.soft]
 | .vb _ _, _ => by simp [AV.soft]
 | .any, _ => by simp [AV.soft]
 | .ss _ _ _, _ => by simp [AV.soft]
 | .z0 _ _, _ => by simp [AV.soft]
 | .pb _ _, _ => by simp [AV.soft]
 | .ps _, _ => by simp [AV.soft]
theorem softL_refs {k : Nat} : ∀ {vs : List AV}, AV.refsL k vs = false → AV.softL k vs = false
 | [], _ => by simp [AV.softL]
 | v :: vs, h => by
  simp only [AV.refsL, Bool.or_eq_false_iff] at h
  simp only [AV.softL, soft_refs h.1, softL_refs h.2, Bool.or_self]
end

theorem piece_one {h : Heap} {us : List (Nat × U)} {x : AV} {v : Value} (hr : VRep h us g x v) (ho : pieceOk x = true) : ∀ c ∈ v.cells.toList, c.oneCell' = true := by
 have dflt : x.one0 = true → ∀ c ∈ v.cells.toList, c.oneCell' = true := by
  intro h1 c hc
  have := one0_val hr h1
  rw [cells_one this] at hc
  simp at hc
  subst hc
  exact this
 cases x with
 | sg vs =>
  simp only [pieceOk] at ho
  simp only [VRep] at hr
  obtain ⟨xs, h1, rfl⟩ := hr
  have hfl := one0s_cells h1 ho
  intro c hc
  rw [hfl] at hc
  simp only [Value.cells, List.toList_toArray] at hc
  have key : ∀ {vs : List AV} {xs : List Value}, VRepL h us g vs xs → vs.all AV.one0 = true → ∀ c ∈ xs, c.oneCell' = true := by
   intro vs
   induction vs with
   | nil => intro xs hr _ c hc; simp only [VRepL] at hr; subst hr; cases hc
   | cons v vs ih =>
    intro xs hr ho c hc
    simp only [VRepL] at hr
    obtain ⟨x, r, rfl, p1, p2⟩ := hr
    simp only [List.all_cons, bA] at ho
    rcases List.mem_cons.1 hc with rfl | hc
    ·exact one0_val p1 ho.1
    ·exact ih p2 ho.2 c hc
  exact key h1 ho c hc
 | _ => exact dflt (by simpa [pieceOk] using ho)

theorem USat.cell {h h' : Heap} {us : List (Nat × U)} (hu : USat h n0 S0 M0 us g) {id : Nat} {u : U} (hm : (id, u) ∈ us) {b : Nat} (hb : g.β id = some b) (hφ : g.φ id = [b]) {c : Array Value} {e : TypeId} (h0 : h'[b]? = some (.cells c e (0, 0)))
  (hsz : h'.size = h.size) (hh : ∀ x, x ≠ b → h'[x]? = h[x]?) {f : AV → Bool} {k1 k2 : List Nat} (hk : ∀ i, i ∈ k1 ∨ i ∈ k2 → i = id) (hk' : id ∈ k1 ∨ id ∈ k2) (hf : ∀ av, f av = false → (∀ k ∈ k1, av.soft k = false) ∧ (∀ k ∈ k2, av.refs k = false))
  {sz : Nat} {z : AV} {vz : Value} (hlike : id ∈ k1 → likeW u (.bx sz [z])) (hz : VRep h us g z vz) (hzr : z.refs id = false) (hzs : vz.cells.size = sz) {rest : List Value} (hc : c.toList = vz.cells.toList ++ rest) (hpin : PinAt n0 M0 id (g.β id) (g.cap id)) :
  USat h' n0 S0 M0 ((id, .bx sz [z]) :: killU id f us) g ∧ KeepW k1 k2 f h h' us ((id, .bx sz [z]) :: killU id f us) g g := by
 have hbfp : b ∈ fp g us := mem_fp.2 ⟨_, hm, by rw [hφ]; simp⟩
 have hoth : ∀ i v, (i, v) ∈ us → i ≠ id → ∀ x ∈ g.φ i, x ≠ b := by
  rintro i v h1 h2 x hx rfl
  exact h2 (fp_apart hu.keys hu.nodup h1 hm hx (by rw [hφ]; simp))
 have hSh : ∀ x, g.Sh x → x ≠ b := fun x hx e => (hu.sh x hx).2.2 (e ▸ hbfp)
 have K : KeepW k1 k2 f h h' us ((id, .bx sz [z]) :: killU id f us) g g := by
  refine ⟨hf, ?_, fun _ => ⟨rfl, rfl, rfl⟩, ?_, ?_, ?_⟩
  ·intro i v hi h1 h2
   have hne : i ≠ id := by
    rintro rfl
    exact hk'.elim h1 h2
   exact List.mem_cons_of_mem _ (mem_killU hi hne)
  ·intro i v x hi h1 h2 hx
   have hne : i ≠ id := by
    rintro rfl
    exact hk'.elim h1 h2
   exact hh x (hoth i v hi hne x ((hu.each _ hi).block_mem hx))
  ·intro t d F cs h1 h2 hr hok
   have hne : t ≠ some id := by
    rintro rfl
    exact hk'.elim (fun h => h1 id h rfl) (fun h => h2 id h rfl)
   have hx : ∀ x ∈ F, h'[x]? = h[x]? := by
    intro x hx
    refine hh x ?_
    rcases hok x hx with q | ⟨i, rfl, q, _⟩
    ·exact hSh x q
    ·obtain ⟨v, hv⟩ := hu.live q
     exact hoth i v hv (fun e => hne (by rw [e])) x q
   exact ⟨hr.frame hx, hok⟩
  ·intro i hi
   have := hk i (.inl hi)
   subst this
   exact ⟨u, _, fun v hv => hu.uniq hv hm, List.mem_cons_self, hlike hi⟩
 have hzn : VRep h' ((id, .bx sz [z]) :: killU id f us) g z vz := by
  refine VRep.keepW K ?_ ?_ hz
  ·intro k hk1
   have := hk k (.inl hk1)
   subst this
   exact soft_refs hzr
  ·intro k hk1
   have := hk k (.inr hk1)
   subst this
   exact hzr
 have mem : ∀ x ∈ ((id, U.bx sz [z]) :: killU id f us), ∃ v, (x.1, v) ∈ us := by
  intro x hx
  rcases List.mem_cons.1 hx with rfl | hx
  ·exact ⟨u, hm⟩
  ·obtain ⟨_, v, h2, _⟩ := of_mem_killU hx
   exact ⟨v, h2⟩
 have hfpm : ∀ x, x ∈ fp g ((id, U.bx sz [z]) :: killU id f us) → x ∈ fp g us := by
  intro x hx
  obtain ⟨y, hy, hxy⟩ := mem_fp.1 hx
  obtain ⟨v, hv⟩ := mem y hy
  exact mem_fp.2 ⟨_, hv, hxy⟩
 have hkeys : (((id, U.bx sz [z]) :: killU id f us).map (·.1)).Nodup := by
  simp only [lC, List.nodup_cons, keys_killU]
  exact ⟨by simp [List.mem_filter], hu.keys.filter _⟩
 refine ⟨⟨hkeys, nodup_flat hkeys ?_ ?_, ?_, fun x hx => hu.low x (hfpm x hx), ?_, ?_, ?_, ?_, hu.pin.keep (fun _ => ⟨rfl, rfl⟩) fun _ => hpin⟩, K⟩
 ·intro x hx
  obtain ⟨v, hv⟩ := mem x hx
  exact phi_nodup hu hv
 ·intro x hx y hy b' hbx hby
  obtain ⟨v, hv⟩ := mem x hx
  obtain ⟨v', hv'⟩ := mem y hy
  exact fp_apart (x := (x.1, v)) (y := (y.1, v')) hu.keys hu.nodup hv hv' hbx hby
 ·intro x hx
  rw [hsz]
  exact hu.lt x (hfpm x hx)
 ·intro i hi
  refine hu.dead i fun hmm => hi ?_
  simp only [lC, List.mem_cons, keys_killU, List.mem_filter]
  by_cases e : i = id
  ·exact .inl e
  ·exact .inr ⟨hmm, by simpa using e⟩
 ·intro x hx
  obtain ⟨q1, q2, q3⟩ := hu.sh x hx
  exact ⟨by rw [hsz]; exact q1, q2, fun hf => q3 (hfpm x hf)⟩
 ·intro x hx
  rcases List.mem_cons.1 hx with rfl | hx
  ·simp only [UOk]
   refine ⟨by simp [maxEl], b, c, e, [vz], rest, hb, h0, hφ, ?_, by simpa using fun _ => hzs, by simpa using hc⟩
   simp only [VRepL]
   exact ⟨_, _, rfl, hzn, rfl⟩
  ·obtain ⟨hne, v, h1, h2⟩ := of_mem_killU hx
   rw [h2]
   have n1 : x.1 ∉ k1 := fun h => hne (hk _ (.inl h))
   have n2 : x.1 ∉ k2 := fun h => hne (hk _ (.inr h))
   exact (hu.each _ h1).keepW K h1 n1 n2 rfl (fun y hy => hh y (hoth _ _ h1 hne y hy)) (fun y hy => ⟨hy, hh y (hSh y hy)⟩)
 ·intro x hx
  by_cases e' : x = b
  ·subst e'; exact ⟨c, e, h0⟩
  ·obtain ⟨c', ty, hc'⟩ := hu.fz x (hfpm x hx)
   exact ⟨c', ty, by rw [hh x e']; exact hc'⟩

theorem cvtE_rep {h h' : Heap} {us us' : List (Nat × U)} {g g' : Gh} {id : Nat} (H : ∀ av v, av.refs id = false → VRep h us g av v → VRep h' us' g' av v) (Hp : ∀ j v, VRep h us g (.pw id 0 j) v → VRep h' us' g' (.pb id j) v) {t : Nat} {v : Value} : ∀ {env : List (Nat × AV)},
  VRep h us g (lk env t) v → VRep h' us' g' (lk (cvtE id env) t) v
 | [], _ => by simp [cvtE, lk, VRep]
 | (k, av) :: r, hr => by
  simp only [cvtE, lk] at hr ⊢
  split
  ·next e =>
   rw [if_pos e] at hr
   unfold cvtV
   split
   ·next i el j =>
    split
    ·next e2 =>
     subst e2
     split
     ·next e3 => subst e3; exact Hp _ _ hr
     ·simp [VRep]
    ·next e2 => exact H _ _ (by simpa [AV.refs] using e2) hr
   ·split
    ·simp [VRep]
    ·next e2 => exact H _ _ (by simpa using e2) hr
  ·next e => rw [if_neg e] at hr; exact cvtE_rep H Hp hr

theorem s_stN (h : At n0 S0 M0 w0 st o a w g) {t u1 u2 : TypeId} {sz : Nat} {p x : Operand} {A X : Ax.X} {f : St → Prop} (ho : o.op = .store t p x) (hd : o.dst = none) (hp : resX P u1 p = some A) (hx : resX P u2 x = some X)
  (hz : szOf P t = some sz) {id el j : Nat} (eA : st.ev A = .pw id el j) (hq : stN (st.unit id) id el j sz (st.ev X) st f) : o.wp P a w (EPost n0 S0 M0 w0 st.n f) Q' := by
 have ep := h.ev_ hp
 have ex := h.ev_ hx
 have hs := h.sat
 unfold stN at hq
 split at hq
 ·next ow nn usz d hun =>
  obtain ⟨⟨q1, q2, rfl, rfl, rfl, q6, q7, q8, q9⟩, hf⟩ := hq
  have hm := mem_of_lu hun
  rw [eA] at ep
  simp only [VRep] at ep
  obtain ⟨ow', nn', sz', es', b, r1, r2, r3, r4, hv⟩ := ep
  have := h.us.uniq r1 hm
  injection this with e1 e2 e3 e4
  subst e1 e2 e3 e4
  have hU := h.us.each _ hm
  simp only [UOk] at hU
  obtain ⟨_, hse, hU⟩ := hU
  rcases hU with ⟨z1, _⟩ | ⟨b', c, e, G, cs, rest, k1, k2, k3, k4, k5, k6, k7, k8⟩
  ·rw [r4] at z1; cases z1
  rw [r4] at k1
  obtain rfl := Option.some.inj k1
  simp only [RepL] at k6
  obtain ⟨F1, F2, c1, c2, rfl, rfl, k6, hF2, hc2⟩ := k6
  subst hF2 hc2
  have hF1 := noPtr_F q6 k6
  subst hF1
  have hφ : g.φ id = [b] := by
   split at k8
   ·simpa using k8
   ·exact k8.1
  have hz' := pieces_rep ex
  have hsz' := item_ok h.us hz' q7 q2
  have hl1 := k6.length
  have hds : d.size = sz' := hse d (by simp)
  have hcl : c.toList.length = c.size := by simp
  have hcap : sz' ≤ c.size := by
   rw [k3] at hcl
   simp only [List.append_nil, lP, hl1] at hcl
   omega
  have hrun := run_st (P := P) (w := w) hz (b := b) (off := 0 * sz' + 0) (v := a.eval x) hsz' k2 (by omega) (piece_one hz' q8)
  have hnew : (c.toList.take (0 * sz' + 0) ++ (a.eval x).cells.toList ++ c.toList.drop (0 * sz' + 0 + sz')).toArray.toList = (a.eval x).cells.toList ++ c.toList.drop (0 * sz' + 0 + sz') := by simp
  obtain ⟨hU', K⟩ := h.us.cell (h' := (w.setRow b (c.toList.take (0 * sz' + 0) ++ (a.eval x).cells.toList ++ c.toList.drop (0 * sz' + 0 + sz')).toArray).heap) hm r4 hφ (setRow_heap w b c _ e _ k2) (setRow_size _ _ _) (fun y hy => setRow_other w b y _ hy)
   (f := AV.refs id) (k1 := []) (k2 := [id]) (by simp) (by simp) (fun av hf => ⟨by simp, by simpa using hf⟩) (sz := sz') (z := pieces (st.ev X)) (by simp) hz' q9 hsz' hnew
   (by
    rcases q1 with rfl | q1
    ·exact h.us.pin.at hm rfl
    ·exact PinAt.low q1)
  have hrep : ∀ t, VRep (w.setRow b (c.toList.take (0 * sz' + 0) ++ (a.eval x).cells.toList ++ c.toList.drop (0 * sz' + 0 + sz')).toArray).heap ((id, U.bx sz' [pieces (st.ev X)]) :: killU id (AV.refs id) st.us) g (lk (cvtE id st.env) t) (a.tmps.getD t undef) := fun t => cvtE_rep (fun av v hf hr => VRep.keepW K (by simp) (by simpa using hf) hr) (fun j v hr => by
   simp only [VRep] at hr ⊢
   obtain ⟨_, _, _, _, b2, p1, _, _, p4, p5⟩ := hr
   exact ⟨_, _, b2, List.mem_cons_self, p4, by simpa using p5⟩) (h.rep t)
  unfold Oper.wp
  have hrun' : (execOp a.eval o).run P w = .ok .skip (w.setRow b (c.toList.take (0 * sz' + 0) ++ (a.eval x).cells.toList ++ c.toList.drop (0 * sz' + 0 + sz')).toArray) := by
   have hr2 := hrun
   simp only [Nat.zero_mul, Nat.add_zero, Nat.zero_add, List.take_zero, List.nil_append] at hr2
   simp [execOp, ho, hv, hr2]
  rw [hrun', Oper.upon_skip, hd]
  refine ⟨st.cvt id (.bx sz' [pieces (st.ev X)]), rfl, hf, hs.ms, hs.dfr, hs.tm, hs.base, hs.os, hs.tape, hs.output, ?_, ?_, g, hU', hrep⟩
  ·rw [setRow_size]; exact hs.size
  ·intro y hy hmy
   have : y ≠ b := by
    rintro rfl
    exact hmy (h.us.low y (mem_fp.2 ⟨_, hm, by rw [hφ]; simp⟩) hy)
   rw [setRow_other w b y _ this]
   exact hs.old y hy hmy
 ·exact hq.elim

theorem s_stB (h : At n0 S0 M0 w0 st o a w g) {t u1 u2 : TypeId} {sz : Nat} {p x : Operand} {A X : Ax.X} {f : St → Prop} (ho : o.op = .store t p x) (hd : o.dst = none) (hp : resX P u1 p = some A) (hx : resX P u2 x = some X)
  (hz : szOf P t = some sz) {id j : Nat} (eA : st.ev A = .pb id j) (hq : stB (st.unit id) id j sz (st.ev X) st f) : o.wp P a w (EPost n0 S0 M0 w0 st.n f) Q' := by
 have ep := h.ev_ hp
 have ex := h.ev_ hx
 have hs := h.sat
 unfold stB at hq
 split at hq
 ·next usz y hun =>
  obtain ⟨⟨q0, q2, q7, q8, q9, q10⟩, hq⟩ := hq
  have hm := mem_of_lu hun
  rw [eA] at ep
  simp only [VRep] at ep
  obtain ⟨sz', items', b, r1, r4, hv⟩ := ep
  have := h.us.uniq r1 hm
  injection this with e1 e2
  subst e1 e2
  have hU := h.us.each _ hm
  simp only [UOk] at hU
  obtain ⟨_, b', c, e, vs, rest, k1, k2, hφ, k4, k5, k6⟩ := hU
  rw [r4] at k1
  obtain rfl := Option.some.inj k1
  simp only [VRepL] at k4
  obtain ⟨vy, r, rfl, hy, rfl⟩ := k4
  have hys := k5 q0 vy (by simp)
  have hc : c.toList = vy.cells.toList ++ rest := by simpa using k6
  have hxs := item_ok h.us ex q7 q2
  have hcl : c.toList.length = c.size := by simp
  have hcs : c.size = sz' + rest.length := by rw [← hcl, hc]; simp [hys]

  have fin : ∀ (z : AV) (vz : Value), VRep w.heap st.us g z vz → z.refs id = false → vz.cells.size = sz' → j + sz ≤ sz' → vz.cells.toList = vy.cells.toList.take j ++ (a.eval x).cells.toList ++ vy.cells.toList.drop (j + sz) → f (st.upd id (.bx sz' [z])) → o.wp P a w (EPost n0 S0 M0 w0 st.n f) Q' := by
   intro z vz hz1 hz2 hz3 hj hz4 hf
   have hrun := run_st (P := P) (w := w) hz (b := b) (off := j) (v := a.eval x) hxs k2 (by omega) (piece_one ex q8)
   have hnew : (c.toList.take j ++ (a.eval x).cells.toList ++ c.toList.drop (j + sz)).toArray.toList = vz.cells.toList ++ rest := by
    have l1 : vy.cells.toList.length = sz' := by simpa using hys
    simp only [hz4, hc]
    rw [List.take_append_of_le_length (by omega), List.drop_append_of_le_length (by omega)]
    simp
   obtain ⟨hU', K⟩ := h.us.cell (h' := (w.setRow b (c.toList.take j ++ (a.eval x).cells.toList ++ c.toList.drop (j + sz)).toArray).heap) hm r4 hφ (setRow_heap w b c _ e _ k2) (setRow_size _ _ _) (fun y hy => setRow_other w b y _ hy)
    (f := AV.soft id) (k1 := [id]) (k2 := []) (by simp) (by simp) (fun av hf => ⟨by simpa using hf, by simp⟩) (sz := sz') (z := z) (fun _ => by simp [likeW]) hz1 hz2 hz3 hnew (h.us.pin.at hm rfl)
   unfold Oper.wp
   have hrun' : (execOp a.eval o).run P w = .ok .skip (w.setRow b (c.toList.take j ++ (a.eval x).cells.toList ++ c.toList.drop (j + sz)).toArray) := by
    simp [execOp, ho, hv, hrun]
   rw [hrun', Oper.upon_skip, hd]
   refine ⟨st.upd id (.bx sz' [z]), rfl, hf, hs.ms, hs.dfr, hs.tm, hs.base, hs.os, hs.tape, hs.output, ?_, ?_, g, hU', fun t => killE_rep K.rep (h.rep t)⟩
   ·rw [setRow_size]; exact hs.size
   ·intro y hy hmy
    have : y ≠ b := by
     rintro rfl
     exact hmy (h.us.low y (mem_fp.2 ⟨_, hm, by rw [hφ]; simp⟩) hy)
    rw [setRow_other w b y _ this]
    exact hs.old y hy hmy
  unfold setV at hq
  split at hq
  ·next hc1 =>
   obtain ⟨rfl, rfl⟩ := hc1
   refine fin (st.ev X) (a.eval x) ex q9 hxs (by omega) ?_ hq
   have : vy.cells.toList.drop (0 + sz) = [] := List.drop_eq_nil_of_le (by simp [hys])
   rw [this]
   simp
  ·split at hq
   ·rename_i ys _
    obtain ⟨⟨p1, p2, rfl, p4⟩, hf⟩ := hq
    simp only [VRep] at hy
    obtain ⟨xs, hxs', rfl⟩ := hy
    have hfl := one0s_cells hxs' p1
    have hl := VRepL_len0 hxs'
    have hone := one0_val ex p4
    have hset : ∀ {vs : List AV} {xs : List Value} {j : Nat}, VRepL w.heap st.us g vs xs → VRepL w.heap st.us g (vs.set j (st.ev X)) (xs.set j (a.eval x)) := by
     intro vs
     induction vs with
     | nil => intro xs j hr; simp only [VRepL] at hr; subst hr; simp [VRepL]
     | cons v vs ih =>
      intro xs j hr
      simp only [VRepL] at hr
      obtain ⟨x0, r, rfl, a1, a2⟩ := hr
      cases j with
      | zero => simp only [List.set_cons_zero, VRepL]; exact ⟨_, _, rfl, ex, a2⟩
      | succ j => simp only [List.set_cons_succ, VRepL]; exact ⟨_, _, rfl, a1, ih a2⟩
    have hall2 : (ys.set j (st.ev X)).all AV.one0 = true := by
     rw [List.all_eq_true] at p1 ⊢
     intro v hv
     rcases List.mem_or_eq_of_mem_set hv with h | h
     ·exact p1 v h
     ·rw [h]; exact p4
    have hfl2 := one0s_cells (hset (j := j) hxs') hall2
    have hyr : AV.refsL id (ys.set j (st.ev X)) = false := by
     have hr0 : AV.refsL id ys = false := by simpa [AV.refs] using q10
     have : ∀ {l : List AV} {j : Nat}, AV.refsL id l = false → AV.refsL id (l.set j (st.ev X)) = false := by
      intro l
      induction l with
      | nil => intro j h; simpa using h
      | cons v l ih =>
       intro j h
       simp only [AV.refsL, Bool.or_eq_false_iff] at h
       cases j with
       | zero => simp only [List.set_cons_zero, AV.refsL, q9, h.2, Bool.or_self]
       | succ j => simp only [List.set_cons_succ, AV.refsL, h.1, ih h.2, Bool.or_self]
     exact this hr0
    have hsz1 : xs.length = sz' := by
     rw [hfl] at hys
     simpa [Value.cells] using hys
    refine fin (.sg (ys.set j (st.ev X))) (.agg ((xs.set j (a.eval x)).map (·.cells.toList)).flatten.toArray) (by simp only [VRep]; exact ⟨_, hset hxs', rfl⟩) (by simpa [AV.refs] using hyr) (by rw [hfl2]; simp [Value.cells, hsz1]) (by omega) ?_ hf
    have e3 : ∀ l : List Value, (Value.agg l.toArray).cells.toList = l := fun l => by simp [Value.cells]
    have hcx : (a.eval x).cells.toList = [a.eval x] := by rw [cells_one hone]
    rw [hfl, hfl2, e3, e3, hcx]
    rw [List.set_eq_take_append_cons_drop, if_pos (by omega)]
    simp
   ·exact hq.elim
 ·exact hq.elim

theorem s_st (h : At n0 S0 M0 w0 st o a w g) {t u1 u2 : TypeId} {sz : Nat} {p x : Operand} {A X : Ax.X} {f : St → Prop} (ho : o.op = .store t p x) (hd : o.dst = none) (hp : resX P u1 p = some A) (hx : resX P u2 x = some X)
  (hz : szOf P t = some sz) (hq : stK (st.ev A) (st.ev X) st sz f) : o.wp P a w (EPost n0 S0 M0 w0 st.n f) Q' := by
 unfold stK at hq
 split at hq
 ·next id el j e1 =>
  split at hq
  ·exact s_stN h ho hd hp hx hz e1 hq
  ·exact s_st1 h ho hd hp hx hz (by rw [e1]; exact hq)
 ·next e1 => exact s_st1 h ho hd hp hx hz (by rw [e1]; exact hq)
 ·next id j e1 => exact s_stB h ho hd hp hx hz e1 hq
 ·next id e1 => exact s_stS h ho hd hp hx hz e1 hq
 ·next tk b q e1 =>
  obtain ⟨id, hq⟩ := hq
  exact s_stA h ho hd hp hx hz e1 hq
 ·exact hq.elim

end Go.Ax
namespace Go.Ax
set_option linter.unusedSimpArgs false

variable {P : Program} {n0 : Nat} {S0 M0 : Nat → Prop} {w0 : World}
variable [Gk P n0 M0 w0]
variable {st : St} {o : Oper} {a : Act} {w : World} {k : KQ} {Q' : Exit → Act → World → Prop} {g : Gh}

theorem bsOp_dst {wv : Wv} {d sz : Nat} {z : D} {l : Nat} {ps : List (Nat × X)} : (bsOp wv d sz z l ps).dst = some d := by
 unfold bsOp
 split <;> rfl
theorem bsOp_isQ {wv : Wv} {d sz : Nat} {z : D} {l : Nat} {ps : List (Nat × X)} : (bsOp wv d sz z l ps).isQ = true := by
 unfold bsOp
 split <;> rfl

theorem s_bsw {wv : Wv} (h : At n0 S0 M0 w0 st o a w g) {t e : TypeId} {len d sz : Nat} {ps : Array (Nat × Operand)} {z : D} {L : List (Nat × X)} (ho : o.op = .buildSlice t len ps) (ht : P.underlying t = some (.slice e))
  (hs : szOf P e = some sz) (hz : zeroOf P e = some z) (hL : ps.toList.mapM (fun (i, x) => do pure (i, ← resX P e x)) = some L)
  (hq : qOp P (bsOp wv d sz z len L) st.ev st.unit k) : o.wp P a w (QPost n0 S0 M0 w0 st o.dst k) Q' := by
 unfold bsOp at hq
 split at hq
 ·obtain ⟨q1, hk⟩ := hq
  have hps : ps = #[] := by
   obtain ⟨_, b2⟩ := bs_parts h ps.toList [] hL
   have : ps.toList = [] := by simpa using b2.symm
   apply Array.ext'
   simpa using this
  subst hps
  have hs0 := h.sat
  have hb0 : n0 ≤ w.heap.size := by rw [hs0.base]; exact hs0.size
  unfold szOf at hs
  cases hinf : P.info? e with
  | none => simp [hinf] at hs
  | some inf =>
   unfold zeroOf at hz
   rw [hinf] at hz
   dsimp only at hz
   split at hz
   ·next zv hzv =>
    obtain ⟨hU, hV⟩ := h.us.wide (h' := w.heap.push (.cells #[] e (0, 0))) (by simp) (fun b hb => push_old hb) hb0 [] (by simp)
    have hrun : (execOp a.eval o).run P w = .ok (.value (.slice (some ⟨w.heap.size, 0, none⟩) 0 0)) (w.alloc (.cells #[] e)) := by
     simp [execOp, ho, Instr.buildSlice, run_underlying ht, sizeOf, typeInfo, hinf, newRow, Instr.fill]
     congr 2
     try (apply Array.ext'; simp)
    unfold Oper.wp
    rw [hrun]
    refine ⟨_, [], hk, fun _ => ?_⟩
    rw [addUs_nil]
    have hS : Sat n0 S0 M0 w0 st a (w.alloc (.cells #[] e)) := by
     refine ⟨hs0.ms, hs0.dfr, hs0.tm, hs0.base, hs0.os, hs0.tape, hs0.output, ?_, ?_, _, hU, fun t => hV _ _ (h.rep t)⟩
     ·have := hs0.size
      show _ ≤ (w.heap.push _).size
      simp
      omega
     ·intro b hb hm
      have : (w.heap.push (.cells #[] e (0, 0)))[b]? = w.heap[b]? := push_old (by omega)
      exact this.trans (hs0.old b hb hm)
    refine sat_set hS hU (fun t => hV _ _ (h.rep t)) (fun i hi => h.dst i hi) ?_
    simp only [VRep]
    exact ⟨_, rfl, by simp, by simp⟩
   ·cases hz
 ·exact s_bs h ho ht hs hz hL hq

theorem bytesA_rep {h : Heap} {us : List (Nat × U)} {g : Gh} : ∀ {items : List AV} {bs : List UInt8} {vs : List Value}, bytesA items = some bs → VRepL h us g items vs →
  ∃ ns : List Int, vs = ns.map (Value.int .u8) ∧ bs = ns.map fun n => UInt8.ofNat n.toNat
 | [], bs, vs, hb, hv => by
  simp only [bytesA, oS] at hb
  simp only [VRepL] at hv
  subst hb hv
  exact ⟨[], rfl, rfl⟩
 | x :: r, bs, vs, hb, hv => by
  simp only [VRepL] at hv
  obtain ⟨v, vr, rfl, h1, h2⟩ := hv
  simp only [bytesA] at hb
  split at hb
  ·next b br e1 e2 =>
   simp only [oS] at hb
   subst hb
   obtain ⟨ns, rfl, rfl⟩ := bytesA_rep e2 h2
   unfold byteA at e1
   split at e1
   ·next t n =>
    simp only [oS] at e1
    subst e1
    have := sc_val h1
    exact ⟨n :: ns, by simp [this], by simp⟩
   ·cases e1
  ·cases hb

theorem push_foldl (ns : List Int) : ∀ s : ByteArray, ns.foldl (fun r n => r.push (UInt8.ofNat n.toNat)) s = ⟨s.data ++ (ns.map fun n => UInt8.ofNat n.toNat).toArray⟩ := by
 induction ns with
 | nil => intro s; simp
 | cons n ns ih =>
  intro s
  simp only [List.foldl_cons, ih, lC]
  congr 1
  apply Array.ext'
  simp [ByteArray.push]

theorem flat_u8 : ∀ ns : List Int, ((ns.map (Value.int .u8)).map (·.cells.toList)).flatten = ns.map (Value.int .u8)
 | [] => rfl
 | n :: ns => by
  have := flat_u8 ns
  simp only [lC, List.flatten_cons, this]
  rfl

theorem s_cvs (h : At n0 S0 M0 w0 st o a w g) {s t e : TypeId} {x : Operand} {X : Ax.X} (ho : o.op = .convert s t x) (hx : resX P s x = some X) (hs : P.underlying s = some (.slice e)) (ht : P.underlying t = some .string) (hu : isU8 P e = true)
  (hq : cvsK (st.ev X) st.unit k) : o.wp P a w (QPost n0 S0 M0 w0 st o.dst k) Q' := by
 have ex := h.ev_ hx
 have he : P.underlying e = some (.int .u8) := by
  unfold isU8 at hu
  split at hu
  ·next k hk =>
   have : k = .u8 := by simpa using hu
   subst this
   exact hk
  ·cases hu
 unfold cvsK at hq
 split at hq
 ·next id len e1 =>
  rw [e1] at ex
  unfold cvsU at hq
  split at hq
  ·next sz items hun =>
   obtain ⟨⟨rfl, rfl⟩, hk⟩ := hq
   unfold cvsB at hk
   split at hk
   ·next bs hb =>
    have hm := mem_of_lu hun
    have hU := h.us.each _ hm
    simp only [UOk] at hU
    obtain ⟨_, b, c, ty, vs, rest, r1, r2, r3, r4, r5, r6⟩ := hU
    simp only [VRep] at ex
    obtain ⟨sz', items', b', x1, x2, x3, x4⟩ := ex
    rw [r1] at x3
    obtain rfl := Option.some.inj x3
    obtain ⟨ns, rfl, rfl⟩ := bytesA_rep hb r4
    have hlen : items.length = ns.length := by
     have : ∀ {items : List AV} {vs : List Value}, VRepL w.heap st.us g items vs → vs.length = items.length := by
      intro items
      induction items with
      | nil => intro vs hv; simp only [VRepL] at hv; simp [hv]
      | cons y items ih => intro vs hv; simp only [VRepL] at hv; obtain ⟨v, r, rfl, _, h2⟩ := hv; simp [ih h2]
     have := this r4
     simpa using this.symm
    have hfl := flat_u8 ns
    rw [hfl] at r6
    have hload : (loadCells ⟨b, 0, none⟩ items.length).run P w = .ok (ns.map (Value.int .u8)).toArray w := by
     have := run_loadCells_list (P := P) (w := w) ⟨b, 0, none⟩ (ns.map (Value.int .u8)) (fun j v hj => by
      rw [Addr.add_lit, cell_of_row w b _ c ty (0, 0) r2]
      have hj' : c.toList[j]? = some v := by
       rw [r6, List.getElem?_append_left]
       ·exact hj
       ·exact (List.getElem?_eq_some_iff.1 hj).1
      simpa using hj')
     simpa [hlen] using this
    have hrun : (execOp a.eval o).run P w = .ok (.value (.string ⟨(ns.map fun n => UInt8.ofNat n.toNat).toArray⟩)) w := by
     have h1 := run_convert_bytes_string (P := P) w s t e (some ⟨b, 0, none⟩) items.length items.length hs he ht
     have h2 := run_bytesToString (P := P) w ⟨b, 0, none⟩ items.length items.length ns hload
     rw [push_foldl] at h2
     simp [execOp, ho, x4, h1, h2]
     try rfl
    exact h.pure_ hrun (sc_rep rfl) hk
   ·exact hk.elim
  ·exact hq.elim
 ·exact hq.elim

end Go.Ax
namespace Go.Ax
set_option linter.unusedSimpArgs false

variable {P : Program} {n0 : Nat} {S0 M0 : Nat → Prop} {w0 : World}
variable [Gk P n0 M0 w0]
variable {st : St} {o : Oper} {a : Act} {w : World} {k : KQ} {Q' : Exit → Act → World → Prop} {g : Gh}

theorem zerOp_isQ {d : Nat} {e : TypeId} {r : ROp} (h : zerOp P d e = some r) : r.isQ = true := by
 unfold zerOp at h
 split at h
 ·injection h with h; subst h; rfl
 ·simp only [oD, oB, oP, oS] at h
  obtain ⟨s, hs, z, hz, rfl⟩ := h
  rfl

theorem bldE_ok {e E : TypeId} (h : bldE P e = some E) : ∃ i, P.info? e = some i ∧ i.zero = some (.agg #[.pointer none, .slice none 0 0]) ∧ P.underlying E = some (.int .u8) := by
 unfold bldE at h
 split at h
 ·next fs i h1 h2 =>
  split at h
  ·next f0 f1 h3 =>
   split at h
   ·next t E' h4 h5 =>
    split at h
    ·next hc =>
     injection h with h
     subst h
     simp only [bA] at hc
     refine ⟨i, h2, ?_, ?_⟩
     ·have hz := hc.2
      unfold zeroIsBld at hz
      split at hz
      ·next cs hcs =>
       split at hz
       ·next l c hl =>
        simp only [bA, beq_iff_eq] at hz
        obtain ⟨rfl, rfl⟩ := hz
        rw [hcs]
        congr 2
        apply Array.ext'
        simpa using hl
       ·cases hz
      ·cases hz
     ·have hu := hc.1.2
      unfold isU8 at hu
      split at hu
      ·next k hk =>
       have : k = .u8 := by simpa using hu
       subst this
       exact hk
      ·cases hu
    ·cases h
   ·cases h
  ·cases h
 ·cases h

theorem s_zerw (h : At n0 S0 M0 w0 st o a w g) {e : TypeId} {d : Nat} {r : ROp} (ho : o.op = .alloc e) (hr : zerOp P d e = some r) (hq : qOp P r st.ev st.unit k) :
  o.wp P a w (QPost n0 S0 M0 w0 st o.dst k) Q' ∧ r.dst = some d := by
 unfold zerOp at hr
 split at hr
 ·next E hE =>
  injection hr with hr
  subst hr
  obtain ⟨hlow, hk⟩ := hq
  obtain ⟨i, hi, hz, _⟩ := bldE_ok hE
  refine ⟨?_, rfl⟩
  refine alloc_post h (c := #[.pointer none, .slice none 0 0]) (e := e) (v := .pointer (some ⟨w.heap.size, 0, none⟩)) [w.heap.size] 1 ?_ rfl ?_ ?_ hk (fun _ => hlow)
  ·simp [execOp, ho, Instr.alloc, zeroValue, typeInfo, hi, hz, newVar, newRow, Value.cells]
  ·intro _
   simp only [UOk, add_self]
   exact ⟨w.heap.size, [], rfl, rfl, .pointer none, .slice none 0 0, push_last _ _, .inl rfl, .inl ⟨rfl, rfl, rfl⟩⟩
  ·intro _
   simp only [VRep]
   exact ⟨_, _, _, w.heap.size, List.mem_cons_self, by simp [add_self], rfl⟩
 ·simp only [oD, oB, oP, oS] at hr
  obtain ⟨s, hs, z, hz, rfl⟩ := hr
  exact ⟨s_zer h ho hz hq, rfl⟩

theorem s_bwr (h : At n0 S0 M0 w0 st o a w g) {f : Nat} {c : Call} {X : Ax.X} {Xs : List Ax.X} {kk : St → Prop} (ho : o.op = .call c) (hc : c.callee = .value (.func f)) (hl : c.args.size = c.argTypes.size)
  (hx : (c.args.toList.zip c.argTypes.toList).mapM (fun p => resX P p.2 p.1) = some (X :: Xs)) (hq : bwrK (st.ev X) P o.dst f (Xs.map st.ev) st kk) : o.wp P a w (EPost n0 S0 M0 w0 st.n kk) Q' := by
 have hev := evRepL (g := g) h.rep (by simpa using hl) hx
 simp only [lC, VRepL] at hev
 obtain ⟨v, r, hvs, hv1, hv2⟩ := hev
 have hs := h.sat
 have hb0 : n0 ≤ w.heap.size := by rw [hs.base]; exact hs.size
 unfold bwrK at hq
 split at hq
 ·next id e1 =>
  unfold bwrU at hq
  split at hq
  ·next T E s hun =>
   obtain ⟨hsh, ds, es, t, hd, hle, ⟨hcl, hA⟩, hsz, hk⟩ := hq
   have hm := mem_of_lu hun
   have hU := h.us.each _ hm
   simp only [UOk] at hU
   obtain ⟨b, F, k1, k2, k3⟩ := hU
   rw [e1] at hv1
   simp only [VRep] at hv1
   obtain ⟨T', E', s', b', x1, x2, rfl⟩ := hv1
   rw [k1] at x2
   obtain rfl := Option.some.inj x2
   have hkfp : ∀ x ∈ b :: F, x ∈ fp g st.us := fun x hx => mem_fp.2 ⟨_, hm, by rw [k2]; exact hx⟩
   have hnd : (b :: F).Nodup := by rw [← k2]; exact phi_nodup h.us hm
   have hold : ArgsRep w.heap g.Sh es r := args_rep h.us g.Sh hv2 hd hle
    (fun av hav hf => by
     have := List.all_eq_true.1 hsh av hav
     rw [hf] at this; cases this) (fun _ _ _ hb => hb)
   have hrun : (execOp a.eval o).run P w = .ok (.enter f (.pointer (some ⟨b, 0, none⟩) :: r).toArray) w := by
    obtain ⟨fn, h1, h2, h3⟩ := hcl
    have h2' : ¬ fn.body = none := by cases hb : fn.body <;> simp_all
    have h3' : ¬ fn.name = "runtime.NumGoroutine" := by simpa using h3
    have ea : (.pointer (some ⟨b, 0, none⟩) :: r).toArray = Array.map a.eval c.args := by
     rw [← hvs]; apply Array.ext'; simp
    rw [ea]
    simp [execOp, ho, resolve, hc, Act.eval, Deferred.ofValue, invoke, callFunc, h1, h2', h3']
   unfold Oper.wp
   rw [hrun, Oper.upon_enter]
   refine (hA w r g.Sh b s F h.sat.wok (fun x hx hm => Gk.fp (P := P) (w0 := w0) h.us x hx (hkfp x hm)) hsz k3 (List.nodup_cons.1 hnd).1 (fun x hx => h.us.fz x (hkfp x hx)) (fun x hx hxF => (h.us.sh x hx).2.2 (hkfp x hxF)) hold).mono ?_
   rintro e w' ⟨⟨v', rfl⟩, p1, p2, p3, p4, p5, F', p6, p7, p8⟩
   obtain ⟨hU2, hV2⟩ := h.us.sbu (h' := w'.heap) hm k1 k2 p4 p5 p6 p7 p8 hb0
   have hS2 : Sat n0 S0 M0 w0 (st.upd id (.sb T E (s ++ t))) a w' := by
    refine ⟨hs.ms, hs.dfr, hs.tm, hs.base, p1.trans hs.os, p2.trans hs.tape, p3.trans hs.output, Nat.le_trans hs.size p4, ?_, _, hU2, fun t => killE_rep (fun av v hf hr => hV2 av v hf hr) (h.rep t)⟩
    intro x hx hmx
    rw [← hs.old x hx hmx]
    exact p5 x (by omega) fun hxF => hmx (h.us.low x (hkfp x hxF) hx)
   refine ⟨_, ?_, hk, sat_set hS2 hU2 (fun t => killE_rep (fun av v hf hr => hV2 av v hf hr) (h.rep t)) h.dst (by simp [VRep])⟩
   cases o.dst <;> rfl
  ·exact hq.elim
 ·exact hq.elim

theorem s_bst (h : At n0 S0 M0 w0 st o a w g) {f d : Nat} {c : Call} {X : Ax.X} {kk : St → Prop} (ho : o.op = .call c) (hc : c.callee = .value (.func f)) (hl : c.args.size = c.argTypes.size)
  (hx : (c.args.toList.zip c.argTypes.toList).mapM (fun p => resX P p.2 p.1) = some [X]) (hd : o.dst = some d) (hq : bstK (st.ev X) P d f st kk) : o.wp P a w (EPost n0 S0 M0 w0 st.n kk) Q' := by
 have hev := evRepL (g := g) h.rep (by simpa using hl) hx
 simp only [lC, lN, VRepL] at hev
 obtain ⟨v, r, hvs, hv1, rfl⟩ := hev
 have hs := h.sat
 unfold bstK at hq
 split at hq
 ·next id e1 =>
  unfold bstU at hq
  split at hq
  ·next T E s hun =>
   obtain ⟨⟨hcl, hA⟩, hk⟩ := hq
   have hm := mem_of_lu hun
   have hU := h.us.each _ hm
   simp only [UOk] at hU
   obtain ⟨b, F, k1, k2, k3⟩ := hU
   rw [e1] at hv1
   simp only [VRep] at hv1
   obtain ⟨T', E', s', b', x1, x2, rfl⟩ := hv1
   rw [k1] at x2
   obtain rfl := Option.some.inj x2
   have hkfp : ∀ x ∈ b :: F, x ∈ fp g st.us := fun x hx => mem_fp.2 ⟨_, hm, by rw [k2]; exact hx⟩
   have hnd : (b :: F).Nodup := by rw [← k2]; exact phi_nodup h.us hm
   have hrun : (execOp a.eval o).run P w = .ok (.enter f #[.pointer (some ⟨b, 0, none⟩)]) w := by
    obtain ⟨fn, h1, h2, h3⟩ := hcl
    have h2' : ¬ fn.body = none := by cases hb : fn.body <;> simp_all
    have h3' : ¬ fn.name = "runtime.NumGoroutine" := by simpa using h3
    have ea : #[.pointer (some ⟨b, 0, none⟩)] = Array.map a.eval c.args := by
     apply Array.ext'; simpa using hvs.symm
    rw [ea]
    simp [execOp, ho, resolve, hc, Act.eval, Deferred.ofValue, invoke, callFunc, h1, h2', h3']
   unfold Oper.wp
   rw [hrun, Oper.upon_enter]
   refine (hA w b s F k3 (List.nodup_cons.1 hnd).1).mono ?_
   rintro e w' ⟨rfl, p1, p2, p3, p4, p5⟩
   obtain ⟨hU1, hK1⟩ := h.us.del id
   have hdrop := drop_fp h.us hm
   have hsub : ∀ x, x ∈ fp (g.drop id) (killU id (AV.refs id) st.us) → x ∈ fp g st.us := fun x hx => (fp_killU (g := g) (g' := g.drop id) (fun j hj => by simp [Gh.drop, hj])).subset hx
   have hfr : ∀ x, x ∈ fp (g.drop id) (killU id (AV.refs id) st.us) ∨ g.Sh x → w'.heap[x]? = w.heap[x]? := by
    intro x hx
    rcases hx with hx | hx
    ·exact p5 x (h.us.lt x (hsub x hx)) fun hxF => hdrop x (by rw [k2]; exact hxF) hx
    ·exact p5 x (h.us.sh x hx).1 fun hxF => (h.us.sh x hx).2.2 (hkfp x hxF)
   have hU2 : USat w'.heap n0 S0 M0 (killU id (AV.refs id) st.us) (g.drop id) ∧ ∀ av x, VRep w.heap (killU id (AV.refs id) st.us) (g.drop id) av x → VRep w'.heap (killU id (AV.refs id) st.us) (g.drop id) av x := by
    have hb : ∀ x ∈ killU id (AV.refs id) st.us, ∀ b, (g.drop id).β x.1 = some b → w'.heap[b]? = w.heap[b]? := fun x hx b hxb => hfr b (.inl (mem_fp.2 ⟨x, hx, (hU1.each x hx).block_mem hxb⟩))
    have him : ∀ t d F cs, Rep w.heap d F cs → (∀ b ∈ F, (g.drop id).ok t b) → Rep w'.heap d F cs ∧ ∀ b ∈ F, (g.drop id).ok t b := by
     intro t d F cs hr hF
     refine ⟨hr.frame fun x hx => ?_, hF⟩
     rcases hF x hx with h1 | ⟨i, rfl, h1, _⟩
     ·exact hfr x (.inr h1)
     ·obtain ⟨u, hu⟩ := hU1.live h1
      exact hfr x (.inl (mem_fp.2 ⟨_, hu, h1⟩))
    refine ⟨⟨hU1.keys, hU1.nodup, fun x hx => Nat.lt_of_lt_of_le (hU1.lt x hx) p4, hU1.low, hU1.dead, fun x hx => ?_, fun x hx => ?_, fun x hx => ?_, hU1.pin⟩, fun av x hr => hr.fr (fun y hy => hy) hb (fun _ _ => ⟨rfl, rfl, rfl⟩) him⟩
    ·obtain ⟨q1, q2, q3⟩ := hU1.sh x hx
     exact ⟨Nat.lt_of_lt_of_le q1 p4, q2, q3⟩
    ·exact (hU1.each x hx).fr hx (fun y hy => hy) hb (fun _ _ => ⟨rfl, rfl, rfl⟩) him rfl (fun b hbb => hfr b (.inl (mem_fp.2 ⟨x, hx, hbb⟩))) (fun b hbb => ⟨hbb, hfr b (.inr hbb)⟩)
    ·obtain ⟨c, ty, hc⟩ := hU1.fz x hx
     exact ⟨c, ty, by rw [hfr x (.inl hx)]; exact hc⟩
   have hrep : ∀ t, VRep w'.heap (st.del id).us (g.drop id) (lk (st.del id).env t) (a.tmps.getD t undef) := fun t =>
    killE_rep (fun av v hf hr => hU2.2 _ _ (VRep.keepR hK1 hf hr)) (h.rep t)
   have hS2 : Sat n0 S0 M0 w0 (st.del id) a w' := by
    refine ⟨hs.ms, hs.dfr, hs.tm, hs.base, p1.trans hs.os, p2.trans hs.tape, p3.trans hs.output, Nat.le_trans hs.size p4, ?_, _, hU2.1, hrep⟩
    intro x hx hmx
    rw [← hs.old x hx hmx]
    have hb0 : n0 ≤ w.heap.size := by rw [hs.base]; exact hs.size
    exact p5 x (by omega) fun hxF => hmx (h.us.low x (hkfp x hxF) hx)
   have := sat_set hS2 hU2.1 hrep (d := o.dst) (fun i hi => h.dst i hi) (sc_rep (t := none) (v := .string s) rfl)
   rw [hd] at this ⊢
   exact ⟨(st.del id).set d (.im none (.sc (.string s))), rfl, hk, this⟩
  ·exact hq.elim
 ·exact hq.elim

end Go.Ax
namespace Go.Ax
set_option linter.unusedSimpArgs false

variable {P : Program} {wv : Wv} {n0 : Nat} {S0 M0 : Nat → Prop} {w0 : World}
variable [Gk P n0 M0 w0]
variable {st : St} {o : Oper} {a : Act} {w : World} {k : KQ} {Q' : Exit → Act → World → Prop} {g : Gh}

theorem guard_some {p : Prop} [Decidable p] {u : Unit} : (guard p : Option Unit) = some u ↔ p := by
 unfold guard
 split <;> simp_all

theorem q_sound {n : Nat} {r : ROp} (hres : resOp P wv n o = some r) (hQ : r.isQ = true) (hn : st.n = n) (h : At n0 S0 M0 w0 st o a w g) (hq : qOp P r st.ev st.unit k) :
  o.wp P a w (QPost n0 S0 M0 w0 st o.dst k) Q' ∧ r.dst = o.dst := by
 unfold resOp at hres
 split at hres
 ·next x ho =>
  simp only [oD, oB, oP, oS, guard_some] at hres
  obtain ⟨d, hd, _, _, X, hX, rfl⟩ := hres
  exact ⟨s_mv h (.inl ho) hX hq, hd.symm⟩
 ·next x ho =>
  simp only [oD, oB, oP, oS, guard_some] at hres
  obtain ⟨d, hd, _, _, X, hX, rfl⟩ := hres
  exact ⟨s_mv h (.inr ho) hX hq, hd.symm⟩
 ·next c x y ho =>
  simp only [oD, oB, oP, oS, guard_some] at hres
  obtain ⟨d, hd, _, _, C, hC, X, hX, Y, hY, rfl⟩ := hres
  exact ⟨s_pick h ho hC hX hY hq, hd.symm⟩
 ·next e x ho =>
  simp only [oD, oB, oP, oS, guard_some] at hres
  obtain ⟨d, hd, _, _, s, hs, X, hX, rfl⟩ := hres
  exact ⟨s_box h ho hX hq, hd.symm⟩
 ·next e ho =>
  simp only [oD, oB, guard_some] at hres
  obtain ⟨d, hd, _, _, hres⟩ := hres
  obtain ⟨h1, h2⟩ := s_zerw h ho hres hq
  exact ⟨h1, by rw [h2]; exact hd.symm⟩
 ·next t x ho =>
  simp only [oD, oB, oP, oS, guard_some] at hres
  obtain ⟨d, hd, _, _, s, hs, ag, hag, _, h1, X, hX, rfl⟩ := hres
  exact ⟨s_ld h ho hX hs hag (fun e => by subst e; simpa using h1) hq, hd.symm⟩
 ·next t p x ho =>
  simp only [oD, oB, oP, oS, guard_some] at hres
  obtain ⟨_, _, s, _, A, _, X, _, rfl⟩ := hres
  cases hQ
 ·next x ho =>
  simp only [oD, oB, oP, oS, guard_some] at hres
  obtain ⟨d, hd, _, _, X, hX, rfl⟩ := hres
  exact ⟨s_nck h ho hX hq, hd.symm⟩
 ·next op t x y u ho =>
  simp only [oD, oB, oP, guard_some] at hres
  obtain ⟨d, hd, _, _, hres⟩ := hres
  split at hres <;> (try simp only [oB, oS] at hres)
  ·obtain ⟨X, hX, Y, hY, rfl⟩ := hres
   exact ⟨s_bin h ho hX hY hq, hd.symm⟩
  ·obtain ⟨X, hX, Y, hY, rfl⟩ := hres
   exact ⟨s_bin h ho hX hY hq, hd.symm⟩
  ·next ht _ _ => obtain ⟨X, hX, Y, hY, rfl⟩ := hres; exact ⟨s_beq h ho hX hY (by assumption) (.inl ⟨rfl, rfl⟩) hq, hd.symm⟩
  ·obtain ⟨X, hX, Y, hY, rfl⟩ := hres; exact ⟨s_beq h ho hX hY (by assumption) (.inr ⟨rfl, rfl⟩) hq, hd.symm⟩
  ·obtain ⟨X, hX, Y, hY, rfl⟩ := hres; exact ⟨s_snil h ho hX hY (by assumption) (.inl ⟨rfl, rfl⟩) hq, hd.symm⟩
  ·obtain ⟨X, hX, Y, hY, rfl⟩ := hres; exact ⟨s_snil h ho hX hY (by assumption) (.inr ⟨rfl, rfl⟩) hq, hd.symm⟩
  ·next fs ht =>
   split at hres <;> (try simp only [oB, oS] at hres)
   ·next hok => obtain ⟨X, hX, Y, hY, rfl⟩ := hres; exact hq.elim
   ·subst hres; cases hQ
  ·next fs ht =>
   split at hres <;> (try simp only [oB, oS] at hres)
   ·next hok => obtain ⟨X, hX, Y, hY, rfl⟩ := hres; exact hq.elim
   ·subst hres; cases hQ
  ·subst hres; cases hQ
 ·next op t x ho =>
  simp only [oD, oB, oP, oS, guard_some] at hres
  obtain ⟨d, hd, _, _, X, hX, rfl⟩ := hres
  exact ⟨s_un h ho hX hq, hd.symm⟩
 ·next s t x ho =>
  simp only [oD, oB, oP, guard_some] at hres
  obtain ⟨d, hd, _, _, hres⟩ := hres
  split at hres <;> (try simp only [oB, oS] at hres)
  ·obtain ⟨X, hX, rfl⟩ := hres
   exact ⟨s_cvt h ho hX (by assumption) (by assumption) hq, hd.symm⟩
  ·split at hres <;> simp only [oB, oS] at hres
   ·obtain ⟨X, hX, rfl⟩ := hres
    exact ⟨s_cvs h ho hX (by assumption) (by assumption) (by assumption) hq, hd.symm⟩
   ·subst hres; cases hQ
  ·subst hres; cases hQ
 ·next t l c ho =>
  simp only [oD, oB, oP, oS, guard_some] at hres
  obtain ⟨d, hd, _, _, e, he, i, hi, z, hz, L, hL, C, hC, rfl⟩ := hres
  have ht : P.underlying t = some (.slice e) := by
   unfold elemOf at he
   split at he
   ·next e' h' => injection he with he; subst he; exact h'
   ·cases he
  exact ⟨s_mk h ho ht hi rfl rfl hz hL hC hq, hd.symm⟩
 ·next t x lo hi ho =>
  simp only [oD, oB, oP, guard_some] at hres
  obtain ⟨d, hd, _, _, Lo, hLo, Hi, hHi, hres⟩ := hres
  have l1 : ∀ y, lo = some y → ∃ Y, Lo = some Y ∧ resX P 0 y = some Y := by
   rintro y rfl
   simp only [Option.map_eq_some_iff] at hLo
   obtain ⟨Y, h1, rfl⟩ := hLo
   exact ⟨Y, rfl, h1⟩
  have l2 : lo = none → Lo = none := by rintro rfl; simpa using hLo.symm
  have l3 : ∀ y, hi = some y → ∃ Y, Hi = some Y ∧ resX P 0 y = some Y := by
   rintro y rfl
   simp only [Option.map_eq_some_iff] at hHi
   obtain ⟨Y, h1, rfl⟩ := hHi
   exact ⟨Y, rfl, h1⟩
  have l4 : hi = none → Hi = none := by rintro rfl; simpa using hHi.symm
  split at hres <;> simp only [oB, oS] at hres
  ·obtain ⟨s, hs, X, hX, rfl⟩ := hres
   exact hq.elim
  ·obtain ⟨X, hX, rfl⟩ := hres
   exact ⟨s_sls h ho (by assumption) hX l1 l2 l3 l4 hq, hd.symm⟩
  ·subst hres; cases hQ
 ·next t x lo hi mx ho =>
  simp only [oD, oB, oP, guard_some] at hres
  obtain ⟨d, hd, _, _, hres⟩ := hres
  split at hres
  ·next e ht =>
   split at hres
   ·next hc0 =>
    simp only [oB, oS] at hres
    obtain ⟨s, hs, X, hX, rfl⟩ := hres
    simp only [bA] at hc0
    cases hi with
    | none => simp at hc0
    | some hi => exact hq.elim
   ·simp only [oS] at hres; subst hres; cases hQ
  ·simp only [oS] at hres; subst hres; cases hQ
 ·next fn first captured ho =>
  simp only [oD, oB, oP, guard_some] at hres
  obtain ⟨d, hd, _, _, hres⟩ := hres
  split at hres
  ·next f hf =>
   simp only [oB, oS] at hres
   obtain ⟨Xs, hXs, rfl⟩ := hres
   have hf' : first = #[] := by apply Array.ext'; simpa using hf
   subst hf'
   exact hq.elim
  ·simp only [oS] at hres; subst hres; cases hQ
 ·next t x i ho =>
  simp only [oD, oB, oP, guard_some] at hres
  obtain ⟨d, hd, _, _, hres⟩ := hres
  split at hres
  ·next fs ht =>
   simp only [oB, oS, guard_some] at hres
   obtain ⟨f, hf, z, hz, _, hz0, X, hX, rfl⟩ := hres
   exact ⟨s_fa h ho hX ht hf rfl hz (by simpa using hz0) hq, hd.symm⟩
  ·cases hres
 ·next t x i ho =>
  simp only [oD, oB, oP, guard_some] at hres
  obtain ⟨d, hd, _, _, hres⟩ := hres
  split at hres
  ·next fs ht =>
   simp only [oB, oS, guard_some] at hres
   obtain ⟨f, hf, s, hs, ag, hag, _, h1, X, hX, rfl⟩ := hres
   exact hq.elim
  ·cases hres
 ·next t x i ho =>
  simp only [oD, oB, oP, guard_some] at hres
  obtain ⟨d, hd, _, _, hres⟩ := hres
  split at hres
  ·next e ht =>
   simp only [oB, oS] at hres
   obtain ⟨s, hs, X, hX, I, hI, rfl⟩ := hres
   exact ⟨s_ia h ho hX hI ht hs hq, hd.symm⟩
  ·simp only [oS] at hres; subst hres; cases hQ
 ·next t x i ho =>
  simp only [oD, oB, oP, guard_some] at hres
  obtain ⟨d, hd, _, _, hres⟩ := hres
  split at hres
  ·next ht =>
   simp only [oB, oS] at hres
   obtain ⟨X, hX, I, hI, rfl⟩ := hres
   exact ⟨s_ix h ho hX hI ht hq, hd.symm⟩
  ·simp only [oS] at hres; subst hres; cases hQ
 ·next x i ho =>
  simp only [oD, oB, oP, oS, guard_some] at hres
  obtain ⟨d, hd, _, _, X, hX, rfl⟩ := hres
  exact ⟨s_ext h ho hX hq, hd.symm⟩
 ·next t l ps ho =>
  simp only [oD, oB, oP, oS, guard_some] at hres
  obtain ⟨d, hd, _, _, e, he, s, hs, z, hz, L, hL, rfl⟩ := hres
  have ht : P.underlying t = some (.slice e) := by
   unfold elemOf at he
   split at he
   ·next e' h' => injection he with he; subst he; exact h'
   ·cases he
  exact ⟨s_bsw h ho ht hs hz hL hq, by rw [bsOp_dst]; exact hd.symm⟩
 ·next t ps ho =>
  simp only [oD, oB, oP, guard_some] at hres
  obtain ⟨d, hd, _, _, hres⟩ := hres
  split at hres
  ·next fs ht =>
   simp only [oB, oS] at hres
   obtain ⟨places, hpl, z, hz, L, hL, rfl⟩ := hres
   exact ⟨s_bld h ho ht hpl hz hL hq, hd.symm⟩
  ·simp only [oS] at hres; subst hres; cases hQ
 ·next c ho =>
  split at hres
  ·next f hc =>
   simp only [oD, oB, guard_some] at hres
   obtain ⟨_, _, _, hl, Xs, hXs, hres⟩ := hres
   split at hres
   ·split at hres
    ·simp only [oP, oS] at hres; subst hres; cases hQ
    ·cases hres
   split at hres
   ·split at hres
    ·simp only [oP, oS] at hres; subst hres; cases hQ
    ·cases hres
   split at hres
   ·split at hres
    ·simp only [oP, oS] at hres; subst hres; cases hQ
    ·cases hres
   split at hres
   ·split at hres
    ·simp only [oP, oS] at hres; subst hres; cases hQ
    ·cases hres
   split at hres
   ·simp only [oP, oS] at hres; subst hres; cases hQ
   ·simp only [oP, oS] at hres
    subst hres
    exact ⟨s_call h ho hc (by simpa using hl) hXs hq, rfl⟩
  ·next x _ hc =>
   simp only [oD, oB, oP, oS, guard_some] at hres
   obtain ⟨_, _, _, hl, X, hX, Xs, hXs, rfl⟩ := hres
   cases wv with
   | yes => cases hQ
   | no => exact ⟨s_calv h ho hc hX (by simpa using hl) hXs hq, rfl⟩
   | ap => exact ⟨s_calv h ho hc hX (by simpa using hl) hXs hq, rfl⟩
  ·next hc =>
   simp only [oD, oB, guard_some] at hres
   obtain ⟨d, hd, _, _, hres⟩ := hres
   split at hres
   ·next x t ha hta =>
    have ha' : c.args = #[x] := by apply Array.ext'; simpa using ha
    have hta' : c.argTypes = #[t] := by apply Array.ext'; simpa using hta
    split at hres <;> simp only [oB, oP, oS] at hres
    ·obtain ⟨X, hX, rfl⟩ := hres
     exact ⟨s_slen h ho hc ha' hta' hX (by assumption) hq, hd.symm⟩
    ·obtain ⟨X, hX, rfl⟩ := hres
     exact ⟨s_len h ho hc ha' hta' hX (by assumption) hq, hd.symm⟩
    ·subst hres; cases hQ
   ·cases hres
  ·next hc =>
   simp only [oD, oB, guard_some] at hres
   obtain ⟨d, hd, _, _, hres⟩ := hres
   split at hres
   ·next x y t u ha hta =>
    have ha' : c.args = #[x, y] := by apply Array.ext'; simpa using ha
    simp only [oB, oP, oS] at hres
    obtain ⟨X, hX, Y, hY, rfl⟩ := hres
    exact hq.elim
   ·cases hres
  ·next hc =>
   simp only [oD, oB, guard_some] at hres
   obtain ⟨d, hd, _, _, hres⟩ := hres
   split at hres
   ·next x y t u ha hta =>
    have ha' : c.args = #[x, y] := by apply Array.ext'; simpa using ha
    simp only [oB, oP, oS] at hres
    obtain ⟨X, hX, Y, hY, rfl⟩ := hres
    exact hq.elim
   ·cases hres
  ·next hc =>
   simp only [oD, oB, guard_some] at hres
   obtain ⟨d, hd, _, _, hres⟩ := hres
   split at hres
   ·next x y t u ha hta =>
    split at hres <;> simp only [oB, oP, oS, guard_some] at hres
    ·next e _ ht _ =>
     obtain ⟨i, hi, _, htu, z, hz, X, hX, Y, hY, rfl⟩ := hres
     cases wv with
     | yes => cases hQ
     | no => cases hQ
     | ap =>
      have ha' : c.args = #[x, y] := by apply Array.ext'; simpa using ha
      have hta' : c.argTypes = #[t, u] := by apply Array.ext'; simpa using hta
      have htu : t = u := by simpa using htu
      subst htu
      exact hq.elim
    ·subst hres; cases hQ
   ·cases hres
  ·next hc =>
   simp only [oD, oB, guard_some] at hres
   obtain ⟨_, _, hres⟩ := hres
   split at hres
   ·next x y t u ha hta =>
    have ha' : c.args = #[x, y] := by apply Array.ext'; simpa using ha
    have hta' : c.argTypes = #[t, u] := by apply Array.ext'; simpa using hta
    split at hres <;> simp only [oB, oP, oS, guard_some] at hres
    ·obtain ⟨s, hs, _, htu, X, hX, Y, hY, rfl⟩ := hres
     cases hQ
    ·subst hres; cases hQ
   ·cases hres
  ·simp only [oP, oS] at hres; subst hres; cases hQ
 ·simp only [oP, oS] at hres; subst hres; cases hQ

end Go.Ax
namespace Go.Ax
set_option linter.unusedSimpArgs false

variable {P : Program} {wv : Wv} {n0 : Nat} {S0 M0 : Nat → Prop} {w0 : World}
variable [Gk P n0 M0 w0]
variable {st : St} {o : Oper} {a : Act} {w : World} {k : KQ} {Q' : Exit → Act → World → Prop} {g : Gh}

theorem e_sound {n : Nat} {r : ROp} (hres : resOp P wv n o = some r) (hQ : r.isQ = false) (h : At n0 S0 M0 w0 st o a w g) {f : St → Prop} (hq : eOp2 P r st f) :
  o.wp P a w (EPost n0 S0 M0 w0 st.n f) Q' := by
 unfold resOp at hres
 split at hres
 ·next x ho =>
  simp only [oD, oB, oP, oS, guard_some] at hres
  obtain ⟨d, hd, _, _, X, hX, rfl⟩ := hres
  cases hQ
 ·next x ho =>
  simp only [oD, oB, oP, oS, guard_some] at hres
  obtain ⟨d, hd, _, _, X, hX, rfl⟩ := hres
  cases hQ
 ·next c x y ho =>
  simp only [oD, oB, oP, oS, guard_some] at hres
  obtain ⟨d, hd, _, _, C, hC, X, hX, Y, hY, rfl⟩ := hres
  cases hQ
 ·next e x ho =>
  simp only [oD, oB, oP, oS, guard_some] at hres
  obtain ⟨d, hd, _, _, s, hs, X, hX, rfl⟩ := hres
  cases hQ
 ·next e ho =>
  simp only [oD, oB, guard_some] at hres
  obtain ⟨d, hd, _, _, hres⟩ := hres
  rw [zerOp_isQ hres] at hQ
  cases hQ
 ·next t x ho =>
  simp only [oD, oB, oP, oS, guard_some] at hres
  obtain ⟨d, hd, _, _, s, hs, ag, hag, _, h1, X, hX, rfl⟩ := hres
  cases hQ
 ·next t p x ho =>
  simp only [oD, oB, oP, oS, guard_some] at hres
  obtain ⟨_, hd, s, hs, A, hA, X, hX, rfl⟩ := hres
  exact s_st h ho (by simpa using hd) hA hX hs hq
 ·next x ho =>
  simp only [oD, oB, oP, oS, guard_some] at hres
  obtain ⟨d, hd, _, _, X, hX, rfl⟩ := hres
  cases hQ
 ·next op t x y u ho =>
  simp only [oD, oB, oP, guard_some] at hres
  obtain ⟨d, hd, _, _, hres⟩ := hres
  split at hres <;> (try simp only [oB, oS] at hres)
  ·obtain ⟨X, hX, Y, hY, rfl⟩ := hres
   cases hQ
  ·obtain ⟨X, hX, Y, hY, rfl⟩ := hres
   cases hQ
  ·next ht _ _ => obtain ⟨X, hX, Y, hY, rfl⟩ := hres; cases hQ
  ·obtain ⟨X, hX, Y, hY, rfl⟩ := hres; cases hQ
  ·obtain ⟨X, hX, Y, hY, rfl⟩ := hres; cases hQ
  ·obtain ⟨X, hX, Y, hY, rfl⟩ := hres; cases hQ
  ·split at hres <;> (try simp only [oB, oS] at hres)
   ·obtain ⟨X, hX, Y, hY, rfl⟩ := hres; cases hQ
   ·subst hres; exact hq.elim
  ·split at hres <;> (try simp only [oB, oS] at hres)
   ·obtain ⟨X, hX, Y, hY, rfl⟩ := hres; cases hQ
   ·subst hres; exact hq.elim
  ·subst hres; exact hq.elim
 ·next op t x ho =>
  simp only [oD, oB, oP, oS, guard_some] at hres
  obtain ⟨d, hd, _, _, X, hX, rfl⟩ := hres
  cases hQ
 ·next s t x ho =>
  simp only [oD, oB, oP, guard_some] at hres
  obtain ⟨d, hd, _, _, hres⟩ := hres
  split at hres <;> (try simp only [oB, oS] at hres)
  ·obtain ⟨X, hX, rfl⟩ := hres
   cases hQ
  ·split at hres <;> simp only [oB, oS] at hres
   ·obtain ⟨X, hX, rfl⟩ := hres
    cases hQ
   ·subst hres; exact hq.elim
  ·subst hres; exact hq.elim
 ·next t l c ho =>
  simp only [oD, oB, oP, oS, guard_some] at hres
  obtain ⟨d, hd, _, _, e, he, i, hi, z, hz, L, hL, C, hC, rfl⟩ := hres
  have ht : P.underlying t = some (.slice e) := by
   unfold elemOf at he
   split at he
   ·next e' h' => injection he with he; subst he; exact h'
   ·cases he
  cases hQ
 ·next t x lo hi ho =>
  simp only [oD, oB, oP, guard_some] at hres
  obtain ⟨d, hd, _, _, Lo, hLo, Hi, hHi, hres⟩ := hres
  have l1 : ∀ y, lo = some y → ∃ Y, Lo = some Y ∧ resX P 0 y = some Y := by
   rintro y rfl
   simp only [Option.map_eq_some_iff] at hLo
   obtain ⟨Y, h1, rfl⟩ := hLo
   exact ⟨Y, rfl, h1⟩
  have l2 : lo = none → Lo = none := by rintro rfl; simpa using hLo.symm
  have l3 : ∀ y, hi = some y → ∃ Y, Hi = some Y ∧ resX P 0 y = some Y := by
   rintro y rfl
   simp only [Option.map_eq_some_iff] at hHi
   obtain ⟨Y, h1, rfl⟩ := hHi
   exact ⟨Y, rfl, h1⟩
  have l4 : hi = none → Hi = none := by rintro rfl; simpa using hHi.symm
  split at hres <;> simp only [oB, oS] at hres
  ·obtain ⟨s, hs, X, hX, rfl⟩ := hres
   cases hQ
  ·obtain ⟨X, hX, rfl⟩ := hres
   cases hQ
  ·subst hres; exact hq.elim
 ·next t x lo hi mx ho =>
  simp only [oD, oB, oP, guard_some] at hres
  obtain ⟨d, hd, _, _, hres⟩ := hres
  split at hres
  ·next e ht =>
   split at hres
   ·next hc0 =>
    simp only [oB, oS] at hres
    obtain ⟨s, hs, X, hX, rfl⟩ := hres
    simp only [bA] at hc0
    cases hi with
    | none => simp at hc0
    | some hi => cases hQ
   ·simp only [oS] at hres; subst hres; exact hq.elim
  ·simp only [oS] at hres; subst hres; exact hq.elim
 ·next fn first captured ho =>
  simp only [oD, oB, oP, guard_some] at hres
  obtain ⟨d, hd, _, _, hres⟩ := hres
  split at hres
  ·next f hf =>
   simp only [oB, oS] at hres
   obtain ⟨Xs, hXs, rfl⟩ := hres
   have hf' : first = #[] := by apply Array.ext'; simpa using hf
   subst hf'
   cases hQ
  ·simp only [oS] at hres; subst hres; exact hq.elim
 ·next t x i ho =>
  simp only [oD, oB, oP, guard_some] at hres
  obtain ⟨d, hd, _, _, hres⟩ := hres
  split at hres
  ·next fs ht =>
   simp only [oB, oS, guard_some] at hres
   obtain ⟨f, hf, z, hz, _, hz0, X, hX, rfl⟩ := hres
   cases hQ
  ·cases hres
 ·next t x i ho =>
  simp only [oD, oB, oP, guard_some] at hres
  obtain ⟨d, hd, _, _, hres⟩ := hres
  split at hres
  ·next fs ht =>
   simp only [oB, oS, guard_some] at hres
   obtain ⟨f, hf, s, hs, ag, hag, _, h1, X, hX, rfl⟩ := hres
   cases hQ
  ·cases hres
 ·next t x i ho =>
  simp only [oD, oB, oP, guard_some] at hres
  obtain ⟨d, hd, _, _, hres⟩ := hres
  split at hres
  ·next e ht =>
   simp only [oB, oS] at hres
   obtain ⟨s, hs, X, hX, I, hI, rfl⟩ := hres
   cases hQ
  ·simp only [oS] at hres; subst hres; exact hq.elim
 ·next t x i ho =>
  simp only [oD, oB, oP, guard_some] at hres
  obtain ⟨d, hd, _, _, hres⟩ := hres
  split at hres
  ·next ht =>
   simp only [oB, oS] at hres
   obtain ⟨X, hX, I, hI, rfl⟩ := hres
   cases hQ
  ·simp only [oS] at hres; subst hres; exact hq.elim
 ·next x i ho =>
  simp only [oD, oB, oP, oS, guard_some] at hres
  obtain ⟨d, hd, _, _, X, hX, rfl⟩ := hres
  cases hQ
 ·next t l ps ho =>
  simp only [oD, oB, oP, oS, guard_some] at hres
  obtain ⟨d, hd, _, _, e, he, s, hs, z, hz, L, hL, rfl⟩ := hres
  rw [bsOp_isQ] at hQ
  cases hQ
 ·next t ps ho =>
  simp only [oD, oB, oP, guard_some] at hres
  obtain ⟨d, hd, _, _, hres⟩ := hres
  split at hres
  ·next fs ht =>
   simp only [oB, oS] at hres
   obtain ⟨_, _, z, hz, L, hL, rfl⟩ := hres
   cases hQ
  ·simp only [oS] at hres; subst hres; exact hq.elim
 ·next c ho =>
  split at hres
  ·next f hc =>
   simp only [oD, oB, guard_some] at hres
   obtain ⟨_, _, _, hl, Xs, hXs, hres⟩ := hres
   split at hres
   ·split at hres
    ·next d x y hd =>
     simp only [oP, oS] at hres
     subst hres
     exact hq.elim
    ·cases hres
   split at hres
   ·split at hres
    ·next d x y hd =>
     simp only [oP, oS] at hres
     subst hres
     exact hq.elim
    ·cases hres
   split at hres
   ·split at hres
    ·next x r =>
     simp only [oP, oS] at hres
     subst hres
     exact s_bwr h ho hc (by simpa using hl) hXs hq
    ·cases hres
   split at hres
   ·split at hres
    ·next d x hd =>
     simp only [oP, oS] at hres
     subst hres
     exact s_bst h ho hc (by simpa using hl) hXs hd hq
    ·cases hres
   split at hres
   ·simp only [oP, oS] at hres
    subst hres
    exact hq.elim
   ·simp only [oP, oS] at hres
    subst hres
    cases hQ
  ·next x _ hc =>
   simp only [oD, oB, oP, oS, guard_some] at hres
   obtain ⟨_, _, _, hl, X, hX, Xs, hXs, rfl⟩ := hres
   cases wv with
   | yes => exact hq.elim
   | no => cases hQ
   | ap => cases hQ
  ·next hc =>
   simp only [oD, oB, guard_some] at hres
   obtain ⟨d, hd, _, _, hres⟩ := hres
   split at hres
   ·next x t ha hta =>
    have ha' : c.args = #[x] := by apply Array.ext'; simpa using ha
    have hta' : c.argTypes = #[t] := by apply Array.ext'; simpa using hta
    split at hres <;> simp only [oB, oP, oS] at hres
    ·obtain ⟨X, hX, rfl⟩ := hres
     cases hQ
    ·obtain ⟨X, hX, rfl⟩ := hres
     cases hQ
    ·subst hres; exact hq.elim
   ·cases hres
  ·next hc =>
   simp only [oD, oB, guard_some] at hres
   obtain ⟨d, hd, _, _, hres⟩ := hres
   split at hres
   ·next x y t u ha hta =>
    have ha' : c.args = #[x, y] := by apply Array.ext'; simpa using ha
    simp only [oB, oP, oS] at hres
    obtain ⟨X, hX, Y, hY, rfl⟩ := hres
    cases hQ
   ·cases hres
  ·next hc =>
   simp only [oD, oB, guard_some] at hres
   obtain ⟨d, hd, _, _, hres⟩ := hres
   split at hres
   ·next x y t u ha hta =>
    have ha' : c.args = #[x, y] := by apply Array.ext'; simpa using ha
    simp only [oB, oP, oS] at hres
    obtain ⟨X, hX, Y, hY, rfl⟩ := hres
    cases hQ
   ·cases hres
  ·next hc =>
   simp only [oD, oB, guard_some] at hres
   obtain ⟨d, hd, _, _, hres⟩ := hres
   split at hres
   ·next s x t u ha hta =>
    have ha' : c.args = #[s, x] := by apply Array.ext'; simpa using ha
    have hta' : c.argTypes = #[t, u] := by apply Array.ext'; simpa using hta
    split at hres <;> simp only [oB, oP, oS, guard_some] at hres
    ·obtain ⟨i, hi, _, htu, z, hz, X, hX, Y, hY, rfl⟩ := hres
     have htu : t = u := by simpa using htu
     subst htu
     cases wv with
     | yes => exact s_app h ho hc ha' hta' (by assumption) hi hz hX hY hd hq
     | no => exact s_app h ho hc ha' hta' (by assumption) hi hz hX hY hd hq
     | ap => cases hQ
    ·subst hres; exact hq.elim
   ·cases hres
  ·next hc =>
   simp only [oD, oB, guard_some] at hres
   obtain ⟨_, _, hres⟩ := hres
   split at hres
   ·next x y t u ha hta =>
    have ha' : c.args = #[x, y] := by apply Array.ext'; simpa using ha
    have hta' : c.argTypes = #[t, u] := by apply Array.ext'; simpa using hta
    split at hres <;> simp only [oB, oP, oS, guard_some] at hres
    ·obtain ⟨s, hs, _, htu, X, hX, Y, hY, rfl⟩ := hres
     have htu : t = u := by simpa using htu
     subst htu
     exact hq.elim
    ·subst hres; exact hq.elim
   ·cases hres
  ·simp only [oP, oS] at hres; subst hres; exact hq.elim
 ·simp only [oP, oS] at hres; subst hres; exact hq.elim

def Post (n0 : Nat) (S0 M0 : Nat → Prop) (w0 : World) (n : Nat) (K : Exit → St → Prop) (e : Exit) (a : Act) (w : World) : Prop := ∃ st, st.n = n ∧ K e st ∧ Sat n0 S0 M0 w0 st a w

theorem setO_post {st : St} {us : List (Nat × U)} {d : Option Nat} {av : AV} {f : St → Prop} (hk : kq f st d av us) : (us = [] ∨ st.fresh us = true) ∧ f ((st.addUs us).setO d av) := by
 cases us with
 | nil => rw [addUs_nil]; exact ⟨.inl rfl, hk⟩
 | cons x us => exact ⟨.inr hk.1, hk.2⟩

theorem op_sound {r : ROp} {f : St → Prop} (hres : resOp P wv st.n o = some r) (hs : Sat n0 S0 M0 w0 st a w) (hd : ∀ i, o.dst = some i → i < st.n) (hq : vcOp P r st f) : o.wp P a w (EPost n0 S0 M0 w0 st.n f) Q' := by
 obtain ⟨g, hu, hv⟩ := hs.gh
 have h : At n0 S0 M0 w0 st o a w g := ⟨hs, hu, hv, hd⟩
 unfold vcOp at hq
 cases hQ : r.isQ with
 | true =>
  rw [hQ, if_pos rfl] at hq
  obtain ⟨h1, h2⟩ := q_sound (Q' := Q') hres hQ rfl h hq
  refine Oper.wp_mono ?_ h1
  rintro a' w' ⟨av, us, hk, hS⟩
  obtain ⟨h3, h4⟩ := setO_post hk
  rw [h2] at h4
  exact ⟨_, by cases o.dst <;> rfl, h4, hS h3⟩
 | false =>
  rw [hQ] at hq
  exact e_sound hres hQ h (by simpa using hq)

theorem yielded_eq {ops : Array Oper} {tm : Array Value} {j t : Nat} {p : Oper} {c : Bool} (hp : ops[j]? = some p) (hd : p.dst = some t) (hv : tm.getD t undef = .bool c) : yielded ops tm j = some c := by
 have : tm[t]? = some (.bool c) := by
  rw [Array.getD_eq_getD_getElem?] at hv
  cases h : tm[t]? with
  | none => rw [h] at hv; cases hv
  | some x => rw [h] at hv; simpa using hv
 simp [yielded, hp, hd, this]

theorem undef_rep {h : Heap} {us : List (Nat × U)} {g : Gh} : VRep h us g (.tup []) undef := by
 simp only [VRep]
 exact ⟨#[], rfl, by simp [VRepL]⟩
theorem undef_val {h : Heap} {us : List (Nat × U)} {g : Gh} {v : Value} (hr : VRep h us g (.tup []) v) : v = undef := by
 simp only [VRep] at hr
 obtain ⟨xs, rfl, h2⟩ := hr
 simp only [VRepL] at h2
 have : xs = #[] := by apply Array.ext'; simpa using h2
 rw [this]
 rfl
theorem yielded_undef {ops : Array Oper} {tm : Array Value} {j t : Nat} {p : Oper} (hp : ops[j]? = some p) (hd : p.dst = some t) (hv : tm.getD t undef = undef) : yielded ops tm j = none := by
 unfold yielded
 rw [hp, Option.bind_some, hd, Option.bind_some]
 cases h : tm[t]? with
 | none => rfl
 | some v =>
  have : v = undef := by rw [← hv, Array.getD_eq_getD_getElem?, h]; rfl
  rw [this]
  rfl

theorem ro_sound {ops : Array Oper} {R : RO} {f : St → Prop} {st : St} {o : Oper} {a : Act} {w : World} {Q' : Exit → Act → World → Prop} (hres : resRO P wv st.n ops o = some R) (hs : Sat n0 S0 M0 w0 st a w)
  (hq : match R.g with | none => vcOp P R.op st f | some (t, b) => grdK (st.get t) b (vcOp P R.op st f) (f (st.setO R.op.dst (.tup [])))) :
  (Region.wanted o (yielded ops a.tmps) = true → o.wp P a w (EPost n0 S0 M0 w0 st.n f) Q') ∧ (Region.wanted o (yielded ops a.tmps) = false → EPost n0 S0 M0 w0 st.n f (a.put o.dst undef) w) := by
 unfold resRO at hres
 simp only [oD, oB, guard_some] at hres
 obtain ⟨r, hr, _, h1, _, h2, hres⟩ := hres
 have hd : ∀ i, o.dst = some i → i < st.n := by
  intro i hi
  rw [hi] at h2
  simpa using h2
 split at hres
 ·next hg =>
  simp only [oP, oS] at hres
  subst hres
  simp only at hq
  refine ⟨fun _ => op_sound hr hs hd hq, fun hw => ?_⟩
  simp [Region.wanted, hg] at hw
 ·next j b hg =>
  simp only [oB, oP, oS] at hres
  obtain ⟨p, hp, t, ht, rfl⟩ := hres
  simp only at hq
  unfold grdK at hq
  split at hq
  ·next t1 c hc =>
   obtain ⟨g, hu, hv⟩ := hs.gh
   have hvt := hv t
   have hc' : lk st.env t = .im t1 (.sc (.bool c)) := hc
   rw [hc'] at hvt
   have hval := sc_val hvt
   have hy := yielded_eq (ops := ops) hp ht hval
   have hw : Region.wanted o (yielded ops a.tmps) = (some c == some b) := by simp [Region.wanted, hg, hy]
   rw [hw]
   refine ⟨fun e => op_sound hr hs hd (hq.1 (by simpa using e)), fun e => ?_⟩
   have hcb : c = !b := by cases c <;> cases b <;> simp_all
   have := hq.2 hcb
   rw [h1] at this
   exact ⟨_, by cases o.dst <;> rfl, this, sat_set hs hu hv hd undef_rep⟩
  ·next hc =>
   obtain ⟨g, hu, hv⟩ := hs.gh
   have hvt := hv t
   have hc' : lk st.env t = .tup [] := hc
   rw [hc'] at hvt
   have hw : Region.wanted o (yielded ops a.tmps) = false := by simp [Region.wanted, hg, yielded_undef (ops := ops) hp ht (undef_val hvt)]
   rw [hw]
   refine ⟨fun e => (by cases e), fun _ => ?_⟩
   rw [h1] at hq
   exact ⟨_, by cases o.dst <;> rfl, hq, sat_set hs hu hv hd undef_rep⟩
  ·exact hq.elim

theorem wpOps_sound {ops : Array Oper} {K : Exit → St → Prop} : ∀ (l : List Oper) (R : List RO) (i : Nat) (st : St) (a : Act) (w : World), (∀ j, l[j]? = ops[i + j]?) → l.mapM (resRO P wv st.n ops) = some R → Sat n0 S0 M0 w0 st a w →
  vcOps P R st K → wpOps P ops (Post n0 S0 M0 w0 st.n K) (List.range' i l.length) a w
 | [], R, i, st, a, w, _, hR, hs, hq => by
  simp at hR
  subst hR
  exact ⟨st, rfl, hq, hs⟩
 | o :: l, R, i, st, a, w, hl, hR, hs, hq => by
  simp only [List.mapM_cons, oD, oB, oP, oS] at hR
  obtain ⟨r, hr, R', hR', rfl⟩ := hR
  have h0 : ops[i]? = some o := by simpa using (hl 0).symm
  have hl' : ∀ j, l[j]? = ops[i + 1 + j]? := fun j => by have := hl (j + 1); simpa [Nat.add_assoc, Nat.add_comm 1 j] using this
  simp only [lK, List.range'_succ, wpOps, h0]
  have hq' : match r.g with | none => vcOp P r.op st (kops P R' K) | some (t, b) => grdK (st.get t) b (vcOp P r.op st (kops P R' K)) (kops P R' K (st.setO r.op.dst (.tup []))) := by
   obtain ⟨g, op⟩ := r
   cases g with
   | none => exact hq
   | some x => exact hq
  have key := ro_sound (Q' := Post n0 S0 M0 w0 st.n K) hr hs hq'
  have hn : ∀ {a' : Act} {w' : World}, EPost n0 S0 M0 w0 st.n (kops P R' K) a' w' → wpOps P ops (Post n0 S0 M0 w0 st.n K) (List.range' (i + 1) l.length) a' w' := by
   rintro a' w' ⟨st', hnn, hf, hs'⟩
   rw [← hnn]
   exact wpOps_sound l R' (i + 1) st' a' w' hl' (by rw [hnn]; exact hR') hs' hf
  cases hw : Region.wanted o (yielded ops a.tmps) with
  | true =>
   simp only [if_true]
   exact .inl (Oper.wp_mono (fun a' w' h => hn h) (key.1 hw))
  | false =>
   simp only [bF, if_false]
   exact hn (key.2 hw)

end Go.Ax
namespace Go.Ax
set_option linter.unusedSimpArgs false

variable {P : Program}

theorem qOp_det {r : ROp} {ev : X → AV} {un : Nat → Option U} {k : KQ} (h : qOp P r ev un k) : ∃ av us, k av us ∧ qOp P r ev un (fun v u => v = av ∧ u = us) := by
 cases r <;> simp only [qOp] at h ⊢
 case mv => exact ⟨_, _, h, rfl, rfl⟩
 case pick d c x y =>
  unfold pickK at h ⊢
  split at h
  ·next t b e =>
   simp only
   cases b with
   | true => exact ⟨_, _, h.1 rfl, fun _ => ⟨rfl, rfl⟩, by simp⟩
   | false => exact ⟨_, _, h.2 rfl, by simp, fun _ => ⟨rfl, rfl⟩⟩
  ·exact h.elim
 case box => unfold boxK at h ⊢; split at h <;> first | exact h.elim | exact ⟨_, _, h.2, h.1, rfl, rfl⟩
 case zer => exact ⟨_, _, h.2, h.1, rfl, rfl⟩
 case ld =>
  unfold ldK at h ⊢
  split at h
  ·exact ⟨_, _, h.2, h.1, rfl, rfl⟩
  ·exact ⟨_, _, h.2, h.1, rfl, rfl⟩
  ·unfold ldW at h ⊢
   split at h
   ·exact ⟨_, _, h.2, h.1, rfl, rfl⟩
   ·exact h.elim
  ·unfold ldQ at h ⊢
   split at h
   ·unfold inLd at h ⊢
    split at h
    ·exact ⟨_, _, h.2, h.1, rfl, rfl⟩
    ·exact h.elim
   ·exact h.elim
  ·unfold ldB at h ⊢
   split at h
   ·obtain ⟨h0, h⟩ := h
    unfold ldV at h ⊢
    split at h
    ·next hc => simp only [if_pos hc]; exact ⟨_, _, h, h0, rfl, rfl⟩
    ·next hc =>
     simp only [if_neg hc]
     unfold ldP at h ⊢
     split at h
     ·obtain ⟨h1, h⟩ := h
      split at h
      ·next ha => simp only [if_pos ha]; exact ⟨_, _, h, h0, h1, rfl, rfl⟩
      ·next ha => simp only [if_neg ha]; exact ⟨_, _, h, h0, h1, rfl, rfl⟩
     ·exact h.elim
   ·exact h.elim
  ·exact h.elim
 case nck => unfold nckK at h ⊢; split at h <;> first | exact h.elim | exact ⟨_, _, h, rfl, rfl⟩
 case bin =>
  unfold binK binA at h ⊢
  split at h
  ·simp only
   unfold binV at h ⊢
   split at h
   ·simp only
    split at h <;> (try simp only) <;> first | exact ⟨_, _, h.2.2, h.1, h.2.1, rfl, rfl⟩ | exact ⟨_, _, h.2, h.1, rfl, rfl⟩
   ·simp only
    split at h <;> (try simp only) <;> first | exact ⟨_, _, h.2, h.1, rfl, rfl⟩ | exact ⟨_, _, h, rfl, rfl⟩ | exact h.elim
   ·exact h.elim
  ·exact h.elim
 case beq => unfold beqK at h ⊢; split at h <;> first | exact h.elim | exact ⟨_, _, h, rfl, rfl⟩
 case snil => unfold snilK at h ⊢; split at h <;> first | exact h.elim | exact ⟨_, _, h, rfl, rfl⟩
 case un => unfold unK at h ⊢; split at h <;> first | exact h.elim | exact ⟨_, _, h, rfl, rfl⟩
 case cvt => unfold cvtK at h ⊢; split at h <;> first | exact h.elim | exact ⟨_, _, h, rfl, rfl⟩
 case mk => unfold mkK at h ⊢; split at h <;> first | exact h.elim | exact ⟨_, _, h.2, h.1, rfl, rfl⟩
 case sls =>
  unfold slsK at h ⊢
  split at h
  ·unfold slcS at h ⊢
   split at h
   ·exact ⟨_, _, h.2, h.1, rfl, rfl⟩
   ·exact h.elim
  ·exact h.elim
 case fa =>
  unfold faK at h ⊢
  split at h
  ·exact ⟨_, _, h.2, h.1, rfl, rfl⟩
  ·exact ⟨_, _, h.2, h.1, rfl, rfl⟩
  ·unfold faW at h ⊢
   split at h
   ·exact ⟨_, _, h.2, h.1, rfl, rfl⟩
   ·exact h.elim
  ·exact ⟨_, _, h.2, h.1, rfl, rfl⟩
  ·exact ⟨_, _, h, rfl, rfl⟩
  ·exact h.elim
 case ia =>
  unfold iaK at h ⊢
  split at h
  ·try simp only
   split at h
   ·obtain ⟨h1, h⟩ := h
    unfold iaW at h ⊢
    split at h
    ·exact ⟨_, _, h.2, h1, h.1, rfl, rfl⟩
    ·exact h.elim
   ·obtain ⟨h1, h⟩ := h
    unfold iaW at h ⊢
    split at h
    ·exact ⟨_, _, h.2, h1, h.1, rfl, rfl⟩
    ·exact h.elim
   ·unfold iaC at h ⊢
    split at h
    ·unfold iaI at h ⊢
     split at h
     ·exact ⟨_, _, h.2, h.1, rfl, rfl⟩
     ·exact h.elim
    ·exact h.elim
   ·unfold iaD at h ⊢
    split at h
    ·exact ⟨_, _, h.2, h.1, rfl, rfl⟩
    ·exact ⟨_, _, h.2, h.1, rfl, rfl⟩
    ·exact h.elim
  ·exact h.elim
 case ix => unfold ixK at h ⊢; split at h <;> first | exact h.elim | exact ⟨_, _, h.2, h.1, rfl, rfl⟩
 case len =>
  unfold lenK at h ⊢
  split at h
  ·exact ⟨_, _, h, rfl, rfl⟩
  ·exact ⟨_, _, h, rfl, rfl⟩
  ·exact ⟨_, _, h, rfl, rfl⟩
  ·unfold lenD at h ⊢
   split at h
   ·exact ⟨_, _, h, rfl, rfl⟩
   ·exact ⟨_, _, h, rfl, rfl⟩
   ·exact h.elim
 case slen => unfold slenK at h ⊢; split at h <;> first | exact h.elim | exact ⟨_, _, h, rfl, rfl⟩
 case call =>
  rcases h with ⟨ds, es, r, h1, h2, h3, h4⟩ | ⟨T, h1, h2, h3⟩ | ⟨h0, t, kk, B, C, h1, h2, h3, h4, h5⟩
  ·exact ⟨_, _, h4, .inl ⟨ds, es, r, h1, h2, h3, rfl, rfl⟩⟩
  ·exact ⟨_, _, h3, .inr (.inl ⟨T, h1, h2, rfl, rfl⟩)⟩
  ·exact ⟨_, _, h5, .inr (.inr ⟨h0, t, kk, B, C, h1, h2, h3, h4, rfl, rfl⟩)⟩
 case calv =>
  unfold calvK at h ⊢
  split at h
  ·rcases h with ⟨ds, es, r, h1, h2, h3, h4⟩ | ⟨T, h1, h2, h3⟩ | ⟨h0, t, kk, B, C, h1, h2, h3, h4, h5⟩
   ·exact ⟨_, _, h4, .inl ⟨ds, es, r, h1, h2, h3, rfl, rfl⟩⟩
   ·exact ⟨_, _, h3, .inr (.inl ⟨T, h1, h2, rfl, rfl⟩)⟩
   ·exact ⟨_, _, h5, .inr (.inr ⟨h0, t, kk, B, C, h1, h2, h3, h4, rfl, rfl⟩)⟩
  ·rcases h with ⟨ds, es, r, h1, h2, h3, h4⟩ | ⟨T, h1, h2, h3⟩ | ⟨h0, t, kk, B, C, h1, h2, h3, h4, h5⟩
   ·exact ⟨_, _, h4, .inl ⟨ds, es, r, h1, h2, h3, rfl, rfl⟩⟩
   ·exact ⟨_, _, h3, .inr (.inl ⟨T, h1, h2, rfl, rfl⟩)⟩
   ·exact ⟨_, _, h5, .inr (.inr ⟨h0, t, kk, B, C, h1, h2, h3, h4, rfl, rfl⟩)⟩
  ·rcases h with ⟨ds, es, r, h1, h2, h3, h4⟩ | ⟨T, h1, h2, h3⟩ | ⟨h0, t, kk, B, C, h1, h2, h3, h4, h5⟩
   ·exact ⟨_, _, h4, .inl ⟨ds, es, r, h1, h2, h3, rfl, rfl⟩⟩
   ·exact ⟨_, _, h3, .inr (.inl ⟨T, h1, h2, rfl, rfl⟩)⟩
   ·exact ⟨_, _, h5, .inr (.inr ⟨h0, t, kk, B, C, h1, h2, h3, h4, rfl, rfl⟩)⟩
  ·exact h.elim
 case ext => unfold extK at h ⊢; split at h <;> first | exact h.elim | exact ⟨_, _, h.2, h.1, rfl, rfl⟩
 case bs =>
  unfold bsK at h ⊢
  split at h
  ·next e => simp only [e, if_true]; exact ⟨_, _, h.2, h.1, rfl, rfl⟩
  ·next e => simp only [e, if_false]; exact ⟨_, _, h.2, h.1, rfl, rfl⟩
 case bld => unfold bldK at h ⊢; split at h <;> first | exact h.elim | exact ⟨_, _, h.2, h.1, rfl, rfl⟩
 case bse => exact ⟨_, _, h.2, h.1, rfl, rfl⟩
 case zsb => exact ⟨_, _, h.2, h.1, rfl, rfl⟩
 case cvs =>
  unfold cvsK at h ⊢
  split at h
  ·unfold cvsU at h ⊢
   split at h
   ·obtain ⟨h1, h2⟩ := h
    unfold cvsB at h2 ⊢
    split at h2
    ·exact ⟨_, _, h2, h1, rfl, rfl⟩
    ·exact h2.elim
   ·exact h.elim
  ·exact h.elim

mutual
def AV.ids : AV → List Nat
 | .tr k => [k]
 | .pw i _ _ => [i]
 | .cw i _ _ _ _ => [i]
 | .sm i _ _ => [i]
 | .vb i _ => [i]
 | .pb i _ => [i]
 | .ps i => [i]
 | .sg vs => AV.idsL vs
 | .cl _ vs => AV.idsL vs
 | .pq i _ _ _ _ _ => [i]
 | .qs i _ _ _ _ _ => [i]
 | .ss i _ _ => [i]
 | _ => []
def AV.idsL : List AV → List Nat
 | [] => []
 | v :: vs => v.ids ++ AV.idsL vs
end

theorem size_local {un un' : Nat → Option U} {a : AV} (hu : ∀ i u, i ∈ a.ids → un i = some u → un' i = some u) (h : AV.size un a ≠ 0) : AV.size un' a = AV.size un a := by
 cases a with
 | tr k =>
  simp only [AV.size] at h ⊢
  split at h
  ·next d hd => rw [hu k _ (by simp [AV.ids]) hd]
  ·exact absurd rfl h
 | _ => rfl
theorem ids_explode : ∀ {vs : List AV} {i : Nat}, i ∈ AV.idsL (explode vs) → i ∈ AV.idsL vs
 | [], _, h => h
 | v :: vs, i, h => by
  have dflt : explode (v :: vs) = v :: explode vs → i ∈ AV.idsL (v :: vs) := by
   intro e
   rw [e] at h
   simp only [AV.idsL, List.mem_append] at h ⊢
   exact h.imp id ids_explode
  cases v with
  | im t d =>
   cases d with
   | ag ds =>
    simp only [explode] at h
    have key : ∀ ds : List D, i ∈ AV.idsL (ds.map (.im t) ++ explode vs) → i ∈ AV.idsL (explode vs) := by
     intro ds
     induction ds with
     | nil => exact id
     | cons d ds ih => intro h; simp only [lC, List.cons_append, AV.idsL, AV.ids, List.nil_append] at h; exact ih h
    simp only [AV.idsL, List.mem_append]
    exact .inr (ids_explode (key ds h))
   | _ => exact dflt rfl
  | _ => exact dflt rfl
theorem ids_pieces {a : AV} {i : Nat} (h : i ∈ (pieces a).ids) : i ∈ a.ids := by
 cases a with
 | sg vs => simp only [pieces, AV.ids] at h ⊢; exact ids_explode h
 | _ => exact h
theorem itemOk_local {un un' : Nat → Option U} {sz : Nat} {a : AV} (hu : ∀ i u, i ∈ a.ids → un i = some u → un' i = some u) (h : itemOk un sz a = true) : itemOk un' sz a = true := by
 cases a with
 | tr k =>
  simp only [itemOk] at h ⊢
  split at h
  ·next d hd => rw [hu k _ (by simp [AV.ids]) hd]; exact h
  ·cases h
 | sg vs =>
  simp only [itemOk, bA] at h ⊢
  have key : ∀ {vs : List AV}, (∀ i u, i ∈ AV.idsL vs → un i = some u → un' i = some u) → vs.all (fun a => AV.size un a != 0) = true → vs.map (AV.size un') = vs.map (AV.size un) := by
   intro vs
   induction vs with
   | nil => intro _ _; rfl
   | cons a as ih =>
    intro hu ha
    simp only [List.all_cons, bA, bne_iff_ne, ne_eq] at ha
    simp only [lC]
    rw [size_local (fun i u hi => hu i u (by simp [AV.idsL, hi])) ha.1, ih (fun i u hi => hu i u (by simp [AV.idsL, hi])) ha.2]
  have e := key (fun i u hi => hu i u (by simpa [AV.ids] using hi)) h.1
  have e2 : ∀ f : AV → Nat, vs.all (fun a => f a != 0) = (vs.map f).all (fun n => n != 0) := fun f => by simp [List.all_map, Function.comp_def]
  rw [e2, e, ← e2]
  exact h
 | im t d => cases t <;> exact h
 | _ => exact h
theorem one_local {un un' : Nat → Option U} {a : AV} (hu : ∀ i u, i ∈ a.ids → un i = some u → un' i = some u) (h : AV.one un a = true) : AV.one un' a = true := by
 cases a with
 | tr k =>
  simp only [AV.one] at h ⊢
  split at h
  ·next d hd => rw [hu k _ (by simp [AV.ids]) hd]; exact h
  ·cases h
 | _ => exact h
theorem aggV_local {un un' : Nat → Option U} {a : AV} (hu : ∀ i u, i ∈ a.ids → un i = some u → un' i = some u) (h : AV.aggV un a = true) : AV.aggV un' a = true := by
 cases a with
 | tr k =>
  simp only [AV.aggV] at h ⊢
  split at h
  ·next d hd => rw [hu k _ (by simp [AV.ids]) hd]; exact h
  ·cases h
 | im t d => cases t <;> exact h
 | _ => exact h
theorem ag3_local {un un' : Nat → Option U} {a : AV} (hu : ∀ i u, i ∈ a.ids → un i = some u → un' i = some u) (h : (AV.aggV un a && itemOk un 3 a) = true) : (AV.aggV un' a && itemOk un' 3 a) = true := by
 rw [bA] at h ⊢
 exact ⟨aggV_local hu h.1, itemOk_local hu h.2⟩
theorem arg_local0 {un un' : Nat → Option U} {a : AV} (hne : (∀ f vs, a ≠ .cl f vs) ∧ ∀ vs, a ≠ .sg vs) {d : D} (h1 : a.arg un = some d) (hu0 : ∀ i u, i ∈ a.ids → un i = some u → un' i = some u) : a.arg un' = some d := by
 unfold AV.arg at h1 ⊢
 split at h1 <;> (try simp only [AV.ids, List.mem_singleton] at hu0) <;> (try exact h1) <;> (try exact absurd rfl (hne.1 _ _)) <;> (try exact absurd rfl (hne.2 _)) <;> (try simp only) <;>
 ·split at h1
  ·next hh => rw [hu0 _ _ rfl hh]; exact h1
  ·cases h1
mutual
theorem arg_local {un un' : Nat → Option U} : ∀ {a : AV} {d : D}, a.arg un = some d → (∀ i u, i ∈ a.ids → un i = some u → un' i = some u) → a.arg un' = some d
 | .cl f vs, d, h, hu => by
  simp only [AV.arg] at h ⊢
  split at h
  ·next ds hds => rw [argsOf_local hds (fun i u hi => hu i u (by simpa [AV.ids] using hi))]; exact h
  ·cases h
 | .im _ _, _, h, hu => arg_local0 (by simp) h hu
 | .tr _, _, h, hu => arg_local0 (by simp) h hu
 | .pw _ _ _, _, h, hu => arg_local0 (by simp) h hu
 | .cw _ _ _ _ _, _, h, hu => arg_local0 (by simp) h hu
 | .sm _ _ _, _, h, hu => arg_local0 (by simp) h hu
 | .vb _ _, _, h, hu => arg_local0 (by simp) h hu
 | .pb _ _, _, h, hu => arg_local0 (by simp) h hu
 | .ps _, _, h, hu => arg_local0 (by simp) h hu
 | .sg vs, d, h, hu => by
  simp only [AV.arg] at h ⊢
  split at h
  ·next ds hds => rw [argsOf_local hds (fun i u hi => hu i u (by simpa [AV.ids] using hi))]; exact h
  ·cases h
 | .tup _, _, h, hu => arg_local0 (by simp) h hu
 | .any, _, h, hu => arg_local0 (by simp) h hu
 | .pq _ _ _ _ _ _, _, h, hu => arg_local0 (by simp) h hu
 | .qs _ _ _ _ _ _, _, h, hu => arg_local0 (by simp) h hu
 | .ss _ _ _, _, h, hu => arg_local0 (by simp) h hu
 | .z0 _ _, _, h, hu => arg_local0 (by simp) h hu
theorem argsOf_local {un un' : Nat → Option U} : ∀ {l : List AV} {ds : List D}, argsOf un l = some ds → (∀ i u, i ∈ AV.idsL l → un i = some u → un' i = some u) → argsOf un' l = some ds
 | [], _, h, _ => by simpa [argsOf] using h
 | a :: l, ds, h, hu => by
  simp only [argsOf] at h ⊢
  split at h
  ·next d ds' h1 h2 =>
   rw [arg_local h1 (fun i u hi => hu i u (by simp [AV.idsL, hi])), argsOf_local h2 (fun i u hi => hu i u (by simp [AV.idsL, hi]))]
   exact h
  ·cases h
end
theorem mem_idsL {l : List AV} {i : Nat} : i ∈ AV.idsL l ↔ ∃ a ∈ l, i ∈ a.ids := by
 induction l with
 | nil => simp [AV.idsL]
 | cons a l ih => simp [AV.idsL, ih]

theorem den_local {un un' : Nat → Option U} {a : AV} {q : Option Nat × D} (h : a.den un = some q) (hu : ∀ i u, i ∈ a.ids → un i = some u → un' i = some u) : a.den un' = some q := by
 unfold AV.den at h ⊢
 split at h <;> (try simp only [AV.ids, List.mem_singleton] at hu) <;> (try exact h) <;> (try simp only) <;>
 ·split at h
  ·next hh => rw [hu _ _ rfl hh]; exact h
  ·cases h

theorem qOp_local {r : ROp} {ev ev' : X → AV} {un un' : Nat → Option U} {k : KQ} (h : qOp P r ev un k) (he : ∀ x ∈ r.xs, ev' x = ev x) (hu : ∀ x ∈ r.xs, ∀ i u, i ∈ (ev x).ids → un i = some u → un' i = some u) : qOp P r ev' un' k := by
 cases r <;> simp only [qOp, ROp.xs, List.mem_cons, List.not_mem_nil, or_false, forall_eq, forall_eq_or_imp] at h he hu ⊢
 case mv => rw [he]; exact h
 case pick => rw [he.1, he.2.1, he.2.2]; exact h
 case box =>
  rw [he]
  unfold boxK at h ⊢
  split at h
  ·exact h
  ·exact ⟨⟨h.1.1, h.1.2.1, itemOk_local (fun i u hi => hu i u (ids_pieces hi)) h.1.2.2⟩, h.2⟩
 case zer => exact h
 case ld =>
  rw [he]
  unfold ldK at h ⊢
  split at h
  ·exact h
  ·exact h
  ·next e =>
   simp only [e, AV.ids, List.mem_singleton] at hu
   unfold ldW at h ⊢
   split at h
   ·next hh => rw [hu _ _ rfl hh]; exact h
   ·exact h.elim
  ·next e =>
   simp only [e, AV.ids, List.mem_singleton] at hu
   unfold ldQ at h ⊢
   split at h
   ·next hh => rw [hu _ _ rfl hh]; exact h
   ·exact h.elim
  ·next e =>
   simp only [e, AV.ids, List.mem_singleton] at hu
   unfold ldB at h ⊢
   split at h
   ·next hh => rw [hu _ _ rfl hh]; exact h
   ·exact h.elim
  ·exact h.elim
 case nck => rw [he]; exact h
 case bin => rw [he.1, he.2]; exact h
 case beq => rw [he.1, he.2]; exact h
 case snil => rw [he.1, he.2]; exact h
 case un => rw [he]; exact h
 case cvt => rw [he]; exact h
 case mk => rw [he.1, he.2]; exact h
 case sls d x lo hi =>
  have e1 : lo.map ev' = lo.map ev := by cases lo <;> simp_all
  have e2 : hi.map ev' = hi.map ev := by cases hi <;> simp_all
  unfold slsK at h ⊢
  rw [e1, e2, he.1]
  exact h
 case fa =>
  rw [he]
  unfold faK at h ⊢
  split at h
  ·exact h
  ·exact h
  ·next e =>
   simp only [e, AV.ids, List.mem_singleton] at hu
   unfold faW at h ⊢
   split at h
   ·next hh => rw [hu _ _ rfl hh]; exact h
   ·exact h.elim
  ·exact h
  ·exact h
  ·exact h.elim
 case ia =>
  rw [he.1, he.2]
  unfold iaK at h ⊢
  split at h
  ·try simp only
   split at h
   ·next e =>
    simp only [e, AV.ids, List.mem_singleton] at hu
    obtain ⟨h1, h⟩ := h
    refine ⟨h1, ?_⟩
    unfold iaW at h ⊢
    split at h
    ·next hh => rw [hu.1 _ _ rfl hh]; exact h
    ·exact h.elim
   ·next e =>
    simp only [e, AV.ids, List.mem_singleton] at hu
    obtain ⟨h1, h⟩ := h
    refine ⟨h1, ?_⟩
    unfold iaW at h ⊢
    split at h
    ·next hh => rw [hu.1 _ _ rfl hh]; exact h
    ·exact h.elim
   ·next e =>
    simp only [e, AV.ids, List.mem_singleton] at hu
    unfold iaC at h ⊢
    split at h
    ·next hh => rw [hu.1 _ _ rfl hh]; exact h
    ·exact h.elim
   ·unfold iaD at h ⊢
    split at h
    ·next hd => rw [den_local hd hu.1]; exact h
    ·next hd => rw [den_local hd hu.1]; exact h
    ·exact h.elim
  ·exact h.elim
 case ix => rw [he.1, he.2]; exact h
 case len =>
  rw [he]
  unfold lenK at h ⊢
  split at h
  ·exact h
  ·exact h
  ·exact h
  ·unfold lenD at h ⊢
   split at h
   ·next hd => rw [den_local hd hu]; exact h
   ·next hd => rw [den_local hd hu]; exact h
   ·exact h.elim
 case slen => rw [he]; exact h
 case call d f args =>
  have e1 : args.map ev' = args.map ev := List.map_congr_left he
  rw [e1]
  rcases h with ⟨ds, es, r, h1, h2, h3, h4⟩ | ⟨T, h1, h2, h3⟩ | ⟨h0, t, kk, B, C, h1, h2, h3, h4, h5⟩
  ·refine .inl ⟨ds, es, r, argsOf_local h1 ?_, h2, h3, h4⟩
   intro i u hi
   obtain ⟨a, ha, hia⟩ := mem_idsL.1 hi
   obtain ⟨x, hx, rfl⟩ := List.mem_map.1 ha
   exact hu x hx i u hia
  ·refine .inr (.inl ⟨T, h1, List.all_eq_true.2 fun a ha => ?_, h3⟩)
   obtain ⟨x, hx, rfl⟩ := List.mem_map.1 ha
   exact one_local (hu x hx) (List.all_eq_true.1 h2 _ ha)
  ·have hall : ∀ a ∈ args.map ev, ∀ i u, i ∈ a.ids → un i = some u → un' i = some u := by
    intro a ha i u hia
    obtain ⟨x, hx, rfl⟩ := List.mem_map.1 ha
    exact hu x hx i u hia
   exact .inr (.inr ⟨h0, t, kk, B, C, h1, h2, ag3_local (hall B (by simp [h1])) h3, ag3_local (hall C (by simp [h1])) h4, h5⟩)
 case calv d x args =>
  have e1 : args.map ev' = args.map ev := List.map_congr_left fun y hy => he.2 y hy
  rw [e1, he.1]
  have go : ∀ vs : List AV, (∀ i u, i ∈ AV.idsL vs → un i = some u → un' i = some u) → ∀ {g : Nat}, callQ P d g (args.map ev ++ vs) un k → callQ P d g (args.map ev ++ vs) un' k := by
   intro vs hvs g h
   have hall : ∀ a ∈ args.map ev ++ vs, ∀ i u, i ∈ a.ids → un i = some u → un' i = some u := by
    intro a ha i u hia
    rcases List.mem_append.1 ha with ha | ha
    ·obtain ⟨x, hx, rfl⟩ := List.mem_map.1 ha
     exact hu.2 x hx i u hia
    ·exact hvs i u (mem_idsL.2 ⟨a, ha, hia⟩)
   rcases h with ⟨ds, es, r, h1, h2, h3, h4⟩ | ⟨T, h1, h2, h3⟩ | ⟨h0, t, kk, B, C, h1, h2, h3, h4, h5⟩
   ·refine .inl ⟨ds, es, r, argsOf_local h1 ?_, h2, h3, h4⟩
    intro i u hi
    obtain ⟨a, ha, hia⟩ := mem_idsL.1 hi
    exact hall a ha i u hia
   ·exact .inr (.inl ⟨T, h1, List.all_eq_true.2 fun a ha => one_local (hall a ha) (List.all_eq_true.1 h2 _ ha), h3⟩)
   ·exact .inr (.inr ⟨h0, t, kk, B, C, h1, h2, ag3_local (hall B (by simp [h1])) h3, ag3_local (hall C (by simp [h1])) h4, h5⟩)
  unfold calvK at h ⊢
  split at h
  ·have := go [] (by simp [AV.idsL]) (by simpa using h)
   simpa using this
  ·next t f ds e =>
   refine go _ ?_ h
   intro i u hi
   obtain ⟨a, ha, hia⟩ := mem_idsL.1 hi
   obtain ⟨d', _, rfl⟩ := List.mem_map.1 ha
   simp [AV.ids] at hia
  ·next f vs e =>
   refine go _ ?_ h
   intro i u hi
   exact hu.1 i u (by rw [e]; simpa [AV.ids] using hi)
  ·exact h.elim
 case ext => rw [he]; exact h
 case bs d sz z len ps =>
  have e1 : (ps.map fun p => (p.1, ev' p.2)) = ps.map fun p => (p.1, ev p.2) := List.map_congr_left fun p hp => by rw [he p.2 (List.mem_map.2 ⟨p, hp, rfl⟩)]
  rw [e1]
  unfold bsK at h ⊢
  split
  ·next e => simpa [e] using h
  ·next e =>
   simp only [e, if_false] at h
   refine ⟨⟨h.1.1, h.1.2.1, h.1.2.2.1, h.1.2.2.2.1, ?_⟩, h.2⟩
   have h3 := h.1.2.2.2.2
   rw [List.all_eq_true] at h3 ⊢
   intro a ha
   have := h3 a ha
   simp only [List.map_map, List.mem_map, Function.comp] at ha
   obtain ⟨p, hp, rfl⟩ := ha
   exact itemOk_local (hu p.2 (List.mem_map.2 ⟨p, hp, rfl⟩)) this
 case bld d z ps =>
  have e1 : (ps.map fun p => (p.1, p.2.1, ev' p.2.2)) = ps.map fun p => (p.1, p.2.1, ev p.2.2) := List.map_congr_left fun p hp => by rw [he p.2.2 (List.mem_map.2 ⟨p, hp, rfl⟩)]
  rw [e1]
  unfold bldK at h ⊢
  split at h
  ·refine ⟨⟨?_, h.1.2⟩, h.2⟩
   have h3 := h.1.1
   rw [List.all_eq_true] at h3 ⊢
   intro a ha
   have := h3 a ha
   simp only [List.mem_map] at ha
   obtain ⟨p, hp, rfl⟩ := ha
   simp only [bA, beq_iff_eq, bne_iff_ne, ne_eq] at this ⊢
   refine ⟨?_, this.2⟩
   have h4 := this.1
   have h5 := hu p.2.2 (List.mem_map.2 ⟨p, hp, rfl⟩)
   generalize ev p.2.2 = av at h4 h5
   unfold AV.size at h4 ⊢
   split at h4 <;> (try exact h4) <;> (try simp only)
   split at h4
   ·next hh => rw [h5 _ _ (by simp [AV.ids]) hh]; exact h4
   ·exact absurd h4.symm this.2
  ·exact h.elim

 case bse => exact h
 case zsb => exact h
 case cvs d x =>
  unfold cvsK at h ⊢
  rw [he]
  split at h
  ·next e =>
   simp only [e, AV.ids, List.mem_singleton] at hu
   unfold cvsU at h ⊢
   split at h
   ·next hh => rw [hu _ _ rfl hh]; exact h
   ·exact h.elim
  ·exact h.elim

end Go.Ax
