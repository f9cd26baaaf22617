/- Contracts of functions of the seat, proved over the engine. No condition. -/
import Derived.Test.YtohakobkclkniaaDoorEnH
set_option linter.unusedSimpArgs false
set_option linter.unusedVariables false
set_option linter.unnecessarySimpa false
namespace Go.Ax
variable {P : Program}

def ghB (b : Nat) (F : List Nat) (sh : Nat → Prop) : Gh := { β := fun k => if k = 3000000000 then some b else none, φ := fun k => if k = 3000000000 then b :: F else [], root := fun _ => default, cap := fun _ => 0, Sh := sh }

theorem args_vrep {h : Heap} {old : Nat → Prop} {us : List (Nat × U)} {g : Gh} (hg : ∀ b, old b → b < h.size → g.Sh b) : ∀ {ds : List D} {vs : List Value}, ArgsRep h old ds vs → VRepL h us g (ds.map (.im none)) vs
 | [], vs, ha => by simpa [ArgsRep, VRepL] using ha
 | d :: ds, vs, ha => by
  simp only [ArgsRep] at ha
  obtain ⟨v, r, F, rfl, h1, h2, h3, h4⟩ := ha
  simp only [List.map_cons, VRepL]
  refine ⟨v, r, rfl, ?_, args_vrep hg h4⟩
  simp only [VRep]
  exact ⟨F, h1, h2, fun b hb => .inl (hg b (h3 b hb) (h1.lt b hb))⟩

theorem afb_of_afw {f T E : Nat} {ds : List D} {t : ByteArray} (ht : t.size ≤ 140737488355328)
  (h : ∀ s : ByteArray, s.size + t.size ≤ 140737488355328 → AFW P f [.sb T E s] (.ps 3000000000 :: ds.map (.im none)) [.sb T E (s ++ t)] (.tup [])) : AFB P f T E ds t := by
 refine ⟨(h ⟨#[]⟩ (by show 0 + t.size ≤ _; omega)).1, fun w vs old b s F hs hb hnb hu hold ha => ?_⟩
 have hlt := hb.lt
 have hfp : fp (ghB b F fun x => old x ∧ x < w.heap.size) (wids 0 [.sb T E s]) = b :: F := by simp [fp, wids, ghB]
 have hW : WSat w.heap old [.sb T E s] (ghB b F fun x => old x ∧ x < w.heap.size) := by
  refine ⟨?_, ?_, ?_, ?_, ?_, ?_, ?_⟩
  ·rw [hfp]; exact List.nodup_cons.2 ⟨hnb, hb.nd⟩
  ·rw [hfp]; exact hlt
  ·rw [hfp]; exact hu
  ·intro k hk
   simp only [wids, List.map_cons, List.map_nil, List.mem_singleton, Nat.add_zero] at hk
   simp [ghB, hk]
  ·intro x hx
   have hx' : old x ∧ x < w.heap.size := hx
   exact ⟨hx'.2, hx'.1, by rw [hfp]; exact hold x hx'.1⟩
  ·intro x hx
   simp only [wids, List.mem_singleton, Nat.add_zero] at hx
   subst hx
   simp only [UOk]
   exact ⟨b, F, by simp [ghB], by simp [ghB], hb⟩
  ·intro x hx _
   simp only [wids, List.mem_singleton, Nat.add_zero] at hx
   subst hx
   simp [ghB]
 have hV : VRepL w.heap (wids 0 [.sb T E s]) (ghB b F fun x => old x ∧ x < w.heap.size) (.ps 3000000000 :: ds.map (.im none)) (.pointer (some ⟨b, 0, none⟩) :: vs) := by
  simp only [VRepL]
  refine ⟨_, _, rfl, ?_, args_vrep (g := ghB b F fun x => old x ∧ x < w.heap.size) (fun x h1 h2 => show old x ∧ x < w.heap.size from ⟨h1, h2⟩) ha⟩
  simp only [VRep]
  exact ⟨T, E, s, b, by simp [wids], by simp [ghB], rfl⟩
 refine ((h s hs).2.2 w _ old _ hW hV).mono ?_
 rintro e w' ⟨v, F', g', rfl, h1, h2, h3, h4, h5, h6, h7⟩
 rw [hfp] at h5
 refine ⟨⟨v, rfl⟩, h1, h2, h3, h4, h5, ?_⟩
 have hm : ((3000000000, U.sb T E (s ++ t)) : Nat × U) ∈ wids 0 [.sb T E (s ++ t)] := by simp [wids]
 have hU := h6.each _ hm
 have hp := (h6.pin _ hm).1
 simp only [UOk] at hU
 obtain ⟨b', F2, q1, q2, q3⟩ := hU
 have hbb : b' = b := by
  simp only [ghB, if_true] at hp
  rw [q1] at hp
  exact Option.some.inj hp
 subst hbb
 have hfp2 : fp g' (wids 0 [.sb T E (s ++ t)]) = b' :: F2 := by simp [fp, wids, q2]
 have hnd := h6.nodup
 have hall := h6.all
 rw [hfp2] at hnd hall
 rw [hfp] at hall
 have hnd2 := (List.nodup_append.1 hnd).2.1
 refine ⟨F2, q3, (List.nodup_cons.1 hnd2).1, fun x hx => ?_⟩
 have hx2 := hall x (by simp [hx])
 rcases Nat.lt_or_ge x w.heap.size with hl | hl
 ·have := hx2.2.2.1 hl
  rcases List.mem_cons.1 this with rfl | this
  ·exact absurd hx (List.nodup_cons.1 hnd2).1
  ·exact .inl this
 ·exact .inr hl

theorem bdAs_im : ∀ {ds : List D}, bdAs (ds.map (AV.im none)) → D.bdL ds
 | [], _ => by simp [D.bdL]
 | d :: ds, h => by
  simp only [List.map_cons, bdAs, bdA] at h
  simp only [D.bdL]
  exact ⟨h.1, bdAs_im h.2⟩

theorem afb_of_res {wv : Wv} {f n : Nat} {rc : RC} {xs : List RV} (h : resFw P wv f = some (n, rc, xs)) (hm : P.follows .mixedOrders = true) {T E : Nat} {ds : List D} {t : ByteArray} (hn : decide (ds.length + 1 ≤ n) = true) (ht : t.size ≤ 140737488355328)
  (hq : D.bdL ds → ∀ s : ByteArray, s.size + t.size ≤ 140737488355328 → vcR P rc (stW n [.sb T E s] (.ps 3000000000 :: ds.map (.im none))) (retWE xs [.sb T E (s ++ t)] (.tup []))) : AFB P f T E ds t :=
 afb_of_afw ht fun s hs => afw_of_res h hm (by simpa using hn) (by rfl) (by simp [pinUs, U.isPin, okUs]) fun _ hb => hq (bdAs_im (by simpa [bdAs, bdA] using hb)) s hs
theorem sub_agt {ds : List D} {j sz : Nat} : D.sub (.ag ds) j sz true = .ag ((ds.drop j).take sz) := rfl
theorem sub_agf {ds : List D} {j sz : Nat} : D.sub (.ag ds) j sz false = ds.getD j default := rfl
theorem bwr_self {dst : Option Nat} {f id T E : Nat} {ys : List AV} {st : St} {k : St → Prop} {s t : ByteArray} (ds : List D) (hu : st.unit id = some (.sb T E s)) (hs : ys.all AV.shared = true) (ha : argsOf st.unit ys = some ds) (h : AFB P f T E ds t)
  (hz : s.size + t.size ≤ 140737488355328) (hk : k ((st.upd id (.sb T E (s ++ t))).setO dst .any)) : bwrK (.ps id) P dst f ys st k := by
 unfold bwrK
 simp only [hu, bwrU]
 exact ⟨hs, ds, ds, t, ha, D.LeL.refl ds, h, hz, hk⟩
theorem bst_self {d f id T E : Nat} {st : St} {k : St → Prop} {s : ByteArray} (hu : st.unit id = some (.sb T E s)) (h : AFS P f T E) (hk : k ((st.del id).set d (.im none (.sc (.string s))))) : bstK (.ps id) P d f st k := by
 unfold bstK
 simp only [hu, bstU]
 exact ⟨h, hk⟩
end Go.Ax
