/- Contracts of functions of the seat, proved over the engine. No condition. -/
import Derived.Test.YtjnghfepojipiaaEnH
set_option linter.unusedSimpArgs false
set_option linter.unusedVariables false
set_option linter.unnecessarySimpa false
namespace Go.Ax

def delsS : List Nat → St → St
 | [], st => st
 | k :: ks, st => delsS ks (st.del k)
theorem Ent.dels : ∀ (ks : List Nat) (st : St), Ent st (delsS ks st)
 | [], st => Ent.refl st
 | k :: ks, st => Ent.trans (Ent.del st k) (Ent.dels ks (st.del k))
@[go_sem] theorem delsS_nil {st : St} : delsS [] st = st := rfl
@[go_sem] theorem delsS_cons {k : Nat} {ks : List Nat} {st : St} : delsS (k :: ks) st = delsS ks (st.del k) := rfl

theorem perm_of_sub {α : Type} : ∀ {l l' : List α}, l'.Nodup → (∀ x ∈ l', x ∈ l) → l.length = l'.length → l'.Perm l
 | [], l', _, _, hl => by
  have : l' = [] := List.length_eq_zero_iff.1 (by simpa using hl.symm)
  subst this; exact List.Perm.refl _
 | a :: l, l', hn, hs, hl => by
  by_cases ha : a ∈ l'
  ·obtain ⟨s, t, rfl⟩ := List.append_of_mem ha
   have hp : (s ++ a :: t).Perm (a :: (s ++ t)) := List.perm_middle
   have hn' := hp.nodup_iff.1 hn
   rw [List.nodup_cons] at hn'
   refine hp.trans (List.Perm.cons a (perm_of_sub hn'.2 ?_ (by simp at hl ⊢; omega)))
   intro x hx
   have := hs x (hp.mem_iff.2 (by simp [hx]))
   rcases List.mem_cons.1 this with rfl | h
   ·exact absurd hx hn'.1
   ·exact h
  ·exfalso
   have key : ∀ {m : List α} {l : List α}, m.Nodup → (∀ x ∈ m, x ∈ l) → m.length ≤ l.length := by
    intro m
    induction m with
    | nil => intro l _ _; simp
    | cons b m ih =>
     intro l hn hs
     rw [List.nodup_cons] at hn
     obtain ⟨s, t, rfl⟩ := List.append_of_mem (hs b (by simp))
     have := ih (l := s ++ t) hn.2 (fun x hx => by
      have h1 := hs x (by simp [hx])
      simp only [List.mem_append, List.mem_cons] at h1 ⊢
      rcases h1 with h1 | rfl | h1
      ·exact .inl h1
      ·exact absurd hx hn.1
      ·exact .inr h1)
     simp at this ⊢; omega
   have h2 : ∀ x ∈ l', x ∈ l := fun x hx => by
    rcases List.mem_cons.1 (hs x hx) with rfl | h
    ·exact absurd hx ha
    ·exact h
   have := key hn h2
   simp at hl; omega

def keysOk : List (Nat × U) → Bool
 | [] => true
 | (k, _) :: r => noU k r && keysOk r
theorem keysOk_nodup : ∀ {us : List (Nat × U)}, keysOk us = true → (us.map (·.1)).Nodup
 | [], _ => by simp
 | (k, u) :: r, h => by
  simp only [keysOk, Bool.and_eq_true] at h
  simp only [List.map_cons, List.nodup_cons]
  exact ⟨noU_spec h.1, keysOk_nodup h.2⟩

theorem Ent.to {n : Nat} {e e1 e' : List (Nat × AV)} {us us1 us' : List (Nat × U)} (ks : List Nat) (h1 : delsS ks ⟨n, e, us⟩ = ⟨n, e1, us1⟩) (hk : keysOk us' = true) (hm : ∀ x ∈ us', x ∈ us1) (hl : us1.length = us'.length) (he : subEnv e1 e') : Ent ⟨n, e, us⟩ ⟨n, e', us'⟩ := by
 refine Ent.trans (Ent.dels ks _) ?_
 rw [h1]
 refine Ent.trans (Ent.perm (us' := us') (perm_of_sub ?_ hm hl)) (Ent.env he)
 have := keysOk_nodup hk
 exact List.Pairwise.of_map (·.1) (fun a b h e => h (e ▸ rfl)) this

theorem vc_onU {P : Program} {c : RC} {K : Exit → St → Prop} {α : Type} {n : Nat} {env : List (Nat × AV)} {us : List (Nat × U)} (ks : List Nat) (upd : α → List (Nat × AV)) (U : α → List (Nat × U)) (J : α → Prop) (μ : α → Nat) (x0 : α)
  (h0 : Ent ⟨n, env, us⟩ ⟨n, upd x0 ++ keep ks env, U x0⟩) (hJ : J x0)
  (h : ∀ x, J x → vcR P c ⟨n, upd x ++ keep ks env, U x⟩ (kseq (fun s => ∃ y, J y ∧ μ y < μ x ∧ Ent s ⟨n, upd y ++ keep ks env, U y⟩) K)) : vcR P (.loop c) ⟨n, env, us⟩ K :=
 vc_loop (fun x => ⟨n, upd x ++ keep ks env, U x⟩) J μ x0 h0 hJ h

theorem AF.sh {P : Program} {f : Nat} {ds : List D} {d : D} (h : AF P f ds (.own d)) : AF P f ds (.sh d) := by
 refine ⟨h.1, fun w vs old ha => (h.2 w vs old ha).mono ?_⟩
 rintro e w' ⟨v, F, G, rfl, hB, hR, hn, hF, hG⟩
 simp only [RetRep] at hR
 obtain ⟨rfl, hR, hf⟩ := hR
 refine ⟨v, [], F, rfl, hB, by simp only [RetRep]; exact ⟨trivial, hR, hf⟩, List.nodup_nil, by simp, fun b hb => .inl ⟨(hF b hb).1, hR.lt b hb⟩⟩

def nnL {α : Type} (l : List α) : Option Bool := match l with | [] => some true | _ => some false
theorem nnL_pos {α : Type} {l : List α} (h : 0 < l.length) : nnL l = some false := by cases l with | nil => simp at h | cons => rfl
theorem nnL_take {α : Type} {l : List α} {i : Nat} (h : i < l.length) : nnL (l.take (i + 1)) = some false := nnL_pos (by simp; omega)
theorem map_take {α β : Type} {f : α → β} {l : List α} {i : Nat} (h : i < l.length) : (l.take (i + 1)).map f = (l.take i).map f ++ [f l[i]] := by rw [List.take_succ_eq_append_getElem h, List.map_append]; rfl

end Go.Ax
