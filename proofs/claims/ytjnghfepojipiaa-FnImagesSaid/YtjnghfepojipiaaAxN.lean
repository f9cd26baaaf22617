/- Contracts of functions of the seat, proved over the engine. No condition. -/
import Derived.Test.YtjnghfepojipiaaEnH
set_option linter.unusedSimpArgs false
set_option linter.unusedVariables false
set_option linter.unnecessarySimpa false
namespace Go.Ax

def delsS : List Nat → St → St
 | [], st => st
 | k :: ks, st => delsS ks (st.del k)
theorem Ent.dels : ∀ (ks : List Nat) (st : St), Ent st (delsS ks st)
 | [], st => Ent.refl st
 | k :: ks, st => Ent.trans (Ent.del st k) (Ent.dels ks (st.del k))
@[go_sem] theorem delsS_nil {st : St} : delsS [] st = st := rfl
@[go_sem] theorem delsS_cons {k : Nat} {ks : List Nat} {st : St} : delsS (k :: ks) st = delsS ks (st.del k) := rfl

theorem lk_map {v : AV} {e : List (Nat × AV)} {t : Nat} : ∀ {ts : List Nat}, lk (ts.map (fun t => (t, v)) ++ e) t = if t ∈ ts then v else lk e t
 | [] => by simp
 | a :: ts => by
  simp only [List.map_cons, List.cons_append, lk, lk_map (ts := ts), List.mem_cons]
  by_cases h : a = t
  ·simp [h]
  ·simp [h, Ne.symm h]

theorem Ent.ren (st : St) (k k' : Nat) (ts : List Nat) (d : D) (hu : lu st.us k = some (.own d)) (hk : noU k' (st.del k).us = true) (ht : ∀ t ∈ ts, lk st.env t = .tr k) :
  Ent st ⟨st.n, ts.map (fun t => (t, .tr k')) ++ (st.del k).env, (k', .own d) :: (st.del k).us⟩ := by
 intro n0 S0 M0 w0 a w hs
 obtain ⟨g, hU0, hv⟩ := hs.gh
 have hm := mem_of_lu hu
 obtain ⟨hU, hK⟩ := hU0.del k
 have hown := hU0.each _ hm
 simp only [UOk] at hown
 obtain ⟨h1, h2, h3⟩ := hown
 have hφ : ∀ b ∈ g.φ k, b ∈ fp g st.us := fun b hb => mem_fp.2 ⟨_, hm, hb⟩
 have hno : ∀ b ∈ g.φ k, b ∉ fp (g.drop k) (killU k (AV.refs k) st.us) := by
  intro b hb hb2
  obtain ⟨x, hx, hbx⟩ := mem_fp.1 hb2
  obtain ⟨hne, u, hx1, _⟩ := of_mem_killU hx
  have hbx' : b ∈ g.φ x.1 := by simpa [Gh.drop, hne] using hbx
  exact hne (fp_apart hU0.keys hU0.nodup hx1 hm hbx' hb)
 obtain ⟨hA, hV⟩ := hU.addG (u := .own d) (β := none) (cap := 0) (F := g.φ k) (v := g.root k) (n := k') (noU_spec hk) (fun b hb => h2.lt b hb) (phi_nodup hU0 hm) (fun b hb hlt => hU0.low b (hφ b hb) hlt) hno
  (fun b hb hS => (hU0.sh b hS).2.2 (hφ b hb)) (fun b hb => hU0.fz b (hφ b hb)) (by simp only [UOk, Gh.add, if_true]; exact ⟨trivial, h2, h3⟩)
 refine ⟨hs.ms, hs.dfr, hs.tm, hs.base, hs.os, hs.tape, hs.output, hs.size, hs.old, _, hA, fun t => ?_⟩
 simp only [lk_map]
 split
 ·next hmem =>
  have := hv t
  rw [ht t hmem] at this
  simp only [VRep] at this ⊢
  exact ⟨⟨d, by simp⟩, by simp [Gh.add, this.2]⟩
 ·exact hV _ _ (killE_rep (fun av v hf hr => VRep.keepR hK hf hr) (hv t))

theorem perm_of_sub {α : Type} : ∀ {l l' : List α}, l'.Nodup → (∀ x ∈ l', x ∈ l) → l.length = l'.length → l'.Perm l
 | [], l', _, _, hl => by
  have : l' = [] := List.length_eq_zero_iff.1 (by simpa using hl.symm)
  subst this; exact List.Perm.refl _
 | a :: l, l', hn, hs, hl => by
  by_cases ha : a ∈ l'
  ·obtain ⟨s, t, rfl⟩ := List.append_of_mem ha
   have hp : (s ++ a :: t).Perm (a :: (s ++ t)) := List.perm_middle
   have hn' := hp.nodup_iff.1 hn
   rw [List.nodup_cons] at hn'
   refine hp.trans (List.Perm.cons a (perm_of_sub hn'.2 ?_ (by simp at hl ⊢; omega)))
   intro x hx
   have := hs x (hp.mem_iff.2 (by simp [hx]))
   rcases List.mem_cons.1 this with rfl | h
   ·exact absurd hx hn'.1
   ·exact h
  ·exfalso
   have key : ∀ {m : List α} {l : List α}, m.Nodup → (∀ x ∈ m, x ∈ l) → m.length ≤ l.length := by
    intro m
    induction m with
    | nil => intro l _ _; simp
    | cons b m ih =>
     intro l hn hs
     rw [List.nodup_cons] at hn
     obtain ⟨s, t, rfl⟩ := List.append_of_mem (hs b (by simp))
     have := ih (l := s ++ t) hn.2 (fun x hx => by
      have h1 := hs x (by simp [hx])
      simp only [List.mem_append, List.mem_cons] at h1 ⊢
      rcases h1 with h1 | rfl | h1
      ·exact .inl h1
      ·exact absurd hx hn.1
      ·exact .inr h1)
     simp at this ⊢; omega
   have h2 : ∀ x ∈ l', x ∈ l := fun x hx => by
    rcases List.mem_cons.1 (hs x hx) with rfl | h
    ·exact absurd hx ha
    ·exact h
   have := key hn h2
   simp at hl; omega

def keysOk : List (Nat × U) → Bool
 | [] => true
 | (k, _) :: r => noU k r && keysOk r
theorem keysOk_nodup : ∀ {us : List (Nat × U)}, keysOk us = true → (us.map (·.1)).Nodup
 | [], _ => by simp
 | (k, u) :: r, h => by
  simp only [keysOk, Bool.and_eq_true] at h
  simp only [List.map_cons, List.nodup_cons]
  exact ⟨noU_spec h.1, keysOk_nodup h.2⟩

theorem Ent.to {n : Nat} {e e1 e' : List (Nat × AV)} {us us1 us' : List (Nat × U)} (ks : List Nat) (h1 : delsS ks ⟨n, e, us⟩ = ⟨n, e1, us1⟩) (hk : keysOk us' = true) (hm : ∀ x ∈ us', x ∈ us1) (hl : us1.length = us'.length) (he : subEnv e1 e') : Ent ⟨n, e, us⟩ ⟨n, e', us'⟩ := by
 refine Ent.trans (Ent.dels ks _) ?_
 rw [h1]
 refine Ent.trans (Ent.perm (us' := us') (perm_of_sub ?_ hm hl)) (Ent.env he)
 have := keysOk_nodup hk
 exact List.Pairwise.of_map (·.1) (fun a b h e => h (e ▸ rfl)) this

theorem vc_onU {P : Program} {c : RC} {K : Exit → St → Prop} {α : Type} {n : Nat} {env : List (Nat × AV)} {us : List (Nat × U)} (ks : List Nat) (upd : α → List (Nat × AV)) (U : α → List (Nat × U)) (J : α → Prop) (μ : α → Nat) (x0 : α)
  (h0 : Ent ⟨n, env, us⟩ ⟨n, upd x0 ++ keep ks env, U x0⟩) (hJ : J x0)
  (h : ∀ x, J x → vcR P c ⟨n, upd x ++ keep ks env, U x⟩ (kseq (fun s => ∃ y, J y ∧ μ y < μ x ∧ Ent s ⟨n, upd y ++ keep ks env, U y⟩) K)) : vcR P (.loop c) ⟨n, env, us⟩ K :=
 vc_loop (fun x => ⟨n, upd x ++ keep ks env, U x⟩) J μ x0 h0 hJ h

theorem argsOf_ims {un : Nat → Option Ax.U} {t : Option Nat} : ∀ {ds : List D}, argsOf un (ds.map (.im t)) = some ds
 | [] => by simp [argsOf]
 | d :: ds => by simp [argsOf, AV.arg, argsOf_ims (ds := ds)]
theorem D.Le.of_eq {d e : D} (h : d = e) : d.Le e := h ▸ D.Le.refl _

theorem AF.sh {P : Program} {f : Nat} {ds : List D} {d : D} (h : AF P f ds (.own d)) : AF P f ds (.sh d) := by
 refine ⟨h.1, fun w vs old ha => (h.2 w vs old ha).mono ?_⟩
 rintro e w' ⟨v, F, G, rfl, hB, hR, hn, hF, hG⟩
 simp only [RetRep] at hR
 obtain ⟨rfl, hR, hf⟩ := hR
 refine ⟨v, [], F, rfl, hB, by simp only [RetRep]; exact ⟨trivial, hR, hf⟩, List.nodup_nil, by simp, fun b hb => .inl ⟨(hF b hb).1, hR.lt b hb⟩⟩

theorem sizeL_mul {sz : Nat} : ∀ {ds : List D}, (∀ d ∈ ds, d.size = sz) → D.sizeL ds = ds.length * sz
 | [], _ => by simp [D.sizeL]
 | d :: ds, h => by
  rw [D.sizeL, h d (by simp), sizeL_mul fun x hx => h x (by simp [hx]), List.length_cons, Nat.succ_mul]
  omega

theorem AF.arr_own {P : Program} {f : Nat} {ds : List D} {sz : Nat} {es : List D} (h : AF P f ds (.arr sz es)) : AF P f ds (.own (.ls (some false) sz es)) := by
 refine ⟨h.1, fun w vs old ha => (h.2 w vs old ha).mono ?_⟩
 rintro e w' ⟨v, F, G, rfl, hB, hR, hn, hF, hG⟩
 simp only [RetRep] at hR
 obtain ⟨rfl, h1, h2, b, c, ty, F', cs, rest, cap, rfl, rfl, h3, h4, h5, h6, h7⟩ := hR
 refine ⟨_, b :: F', [], rfl, hB, ?_, hn, hF, hG⟩
 simp only [RetRep]
 have hl := RepL.length h7
 rw [sizeL_mul h2] at hl
 refine ⟨trivial, ?_, ?_⟩
 ·simp only [Rep]
  refine .inr ⟨b, 0, cap, c, ty, (0, 0), F', by simp [Value.cells], rfl, by simp, h6, h1, h3, by omega, h2, ?_⟩
  rw [List.drop_zero, h4, ← hl, List.take_left']
  ·exact h7
  ·rfl
 ·exact rfl

theorem map_take {α β : Type} {f : α → β} {l : List α} {i : Nat} (h : i < l.length) : (l.take (i + 1)).map f = (l.take i).map f ++ [f l[i]] := by rw [List.take_succ_eq_append_getElem h, List.map_append]; rfl

def tabL {α : Type} (n : Nat) (g : Nat → α) : List α := (List.range n).map g
theorem tabL_len {α : Type} {n : Nat} {g : Nat → α} : (tabL n g).length = n := by simp [tabL]
theorem tabL_zero {α : Type} {g : Nat → α} : tabL 0 g = [] := rfl
theorem tabL_succ {α : Type} {n : Nat} {g : Nat → α} : tabL (n + 1) g = tabL n g ++ [g n] := by simp [tabL, List.range_succ]
theorem tabL_map {α β : Type} {n : Nat} {g : Nat → α} {f : α → β} : (tabL n g).map f = tabL n fun i => f (g i) := by simp [tabL, Function.comp_def]

end Go.Ax
