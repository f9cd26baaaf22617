/- Contracts of functions of the seat, proved over the engine. No condition. -/
import Derived.Test.YtjnghfepojipiaaX92
set_option linter.unusedSimpArgs false
set_option linter.unusedVariables false
set_option linter.unnecessarySimpa false
namespace Go.Ax

theorem cut_put {l cv : List Value} {off j M : Nat} (hc : cv.length = 3) (hj : j + 3 ≤ M) (hl : off + M ≤ l.length) :
  ((l.take (off + j) ++ (cv ++ l.drop (off + j + 3))).drop off).take M = ((l.drop off).take M).take j ++ (cv ++ ((l.drop off).take M).drop (j + 3)) := by
 have e1 : (l.take (off + j)).length = off + j := by simp; omega
 have e2 : ((l.drop off).take j).length = j := by simp; omega
 rw [List.drop_append, e1, List.drop_take, show off - (off + j) = 0 by omega, List.drop_zero, show off + j - off = j by omega]
 rw [List.take_append, e2, List.take_append, hc, List.take_take, List.take_take, List.drop_take, List.drop_drop, List.take_of_length_le (l := cv) (by omega)]
 rw [show min M j = min j M by omega, show M - j - 3 = M - (j + 3) by omega, Nat.add_assoc]
theorem eE_intro {h : Heap} {k n : Int} {nn : Option Bool} {ks : List Ex} {b off cap : Nat} {c : Array Value} {e fr} {F' : List Nat} (h1 : nn ≠ some true) (h2 : ks.length ≤ cap) (h3 : ks.length ≤ maxEl)
  (h4 : h[b]? = some (.cells c e fr)) (h5 : off + cap * 3 ≤ c.size) (h6 : RepL h (ks.map eE) F' ((c.toList.drop off).take (ks.length * 3))) :
  Rep h (eE (.mk k n nn ks)) (b :: F') [.int .i64 k, .int .i64 n, .slice (some ⟨b, off, none⟩) ks.length cap] := by
 rw [eE_mk]
 simp only [Rep, RepL]
 refine ⟨by simp [D.size, D.isAg], [], b :: F', [.int .i64 k], [.int .i64 n, .slice (some ⟨b, off, none⟩) ks.length cap], rfl, rfl, ⟨rfl, rfl, rfl⟩, [], b :: F', [.int .i64 n], [.slice (some ⟨b, off, none⟩) ks.length cap], rfl, rfl, ⟨rfl, rfl, rfl⟩, b :: F', [], [.slice (some ⟨b, off, none⟩) ks.length cap], [], by simp, rfl, .inr ⟨b, off, cap, c, e, fr, F', by simp, rfl, h1, by simpa using h2, by simpa using h3, h4, h5, ?_, by simpa using h6⟩, rfl, rfl⟩
 intro d hd
 obtain ⟨y, _, rfl⟩ := List.mem_map.1 hd
 exact eE_size y

theorem loc_set {h : Heap} {v : Ex} {G : List Nat} {cv : List Value} (hv : Rep h (eE v) G cv) (hG : G.Nodup) : ∀ (xs : List Int) (t : Ex) (bo : Bool) (F : List Nat) (cs : List Value), xs ≠ [] →
  Rep h (eE t) F cs → F.Nodup → (atE t xs bo).2.2 = true → (∀ x ∈ F, x ∉ G) →
  ∃ b' o' c e fr, Loc h xs cs b' o' ∧ b' ∈ F ∧ h[b']? = some (.cells c e fr) ∧ o' + 3 ≤ c.size ∧
   ∀ (h' : Heap) (c' : Array Value), (∀ b, b ≠ b' → h'[b]? = h[b]?) → h'[b']? = some (.cells c' e fr) → c'.toList = c.toList.take o' ++ (cv ++ c.toList.drop (o' + 3)) →
    ∃ F', Rep h' (eE (setE xs t v)) F' cs ∧ F'.Nodup ∧ ∀ x ∈ F', x ∈ F ∨ x ∈ G
 | [], _, _, _, _, hx, _, _, _, _ => absurd rfl hx
 | x :: ys, t, bo, F, cs, _, hr, hn, ha, hd => by
  obtain ⟨k, n, nn, ks, rfl⟩ := Ex.ex t
  rw [atE, Ex.ks_mk, Ex.k_mk] at ha
  split at ha
  ·next hi =>
   have hp := isIn_lt hi
   rw [eE_mk] at hr
   simp only [Rep, RepL] at hr
   obtain ⟨_, F1, F2, c1, c2, rfl, rfl, ⟨rfl, rfl, q1⟩, F3, F4, c3, c4, rfl, rfl, ⟨rfl, rfl, q2⟩, F5, F6, c5, c6, rfl, rfl, h3, rfl, rfl⟩ := hr
   rcases h3 with ⟨p, _, h0, _⟩ | ⟨b, off, cap, c, e, fr, F', rfl, rfl, hnn, hcap, hmx, hb, hsz, hs3, hl⟩
   ·simp at h0; subst h0; simp at hp
   simp only [List.nil_append, List.append_nil, List.length_map] at hn hd hl hcap hmx ⊢
   obtain ⟨A, B, C, rfl, g1, g2⟩ := repL_one (i := x.toNat) hl hs3 (by simpa using hp.2.2)
   have hn' := List.nodup_cons.1 hn
   have hbA : b ∉ A := fun h => hn'.1 (by simp [h])
   have hbB : b ∉ B := fun h => hn'.1 (by simp [h])
   have hbC : b ∉ C := fun h => hn'.1 (by simp [h])
   have hn2 := hn'.2
   have hAnd : A.Nodup := (List.nodup_append.1 hn2).1
   have hBC := (List.nodup_append.1 hn2).2.1
   have hBn : B.Nodup := (List.nodup_append.1 hBC).1
   have hCn : C.Nodup := (List.nodup_append.1 hBC).2.1
   have hAB : ∀ a ∈ A, a ∉ B := fun a h1 h2 => (List.nodup_append.1 hn2).2.2 a h1 a (by simp [h2]) rfl
   have hAC : ∀ a ∈ A, a ∉ C := fun a h1 h2 => (List.nodup_append.1 hn2).2.2 a h1 a (by simp [h2]) rfl
   have hBC' : ∀ a ∈ B, a ∉ C := fun a h1 h2 => (List.nodup_append.1 hBC).2.2 a h1 a h2 rfl
   have hcv : cv.length = 3 := by rw [hv.length, eE_size]
   have hxl : x.toNat * 3 + 3 ≤ ks.length * 3 := by have := hp.2.2; omega
   have hce : off + ks.length * 3 ≤ c.size := by
    have : ks.length * 3 ≤ cap * 3 := by omega
    omega
   have hcut : (((c.toList.drop off).take (ks.length * 3)).drop (x.toNat * 3)).take 3 = (c.toList.drop (off + x.toNat * 3)).take 3 := by
    rw [List.drop_take, List.take_take, List.drop_drop]; congr 1; omega
   have hkk : (ks.map eE)[x.toNat]'(by simpa using hp.2.2) = eE (ks.getD x.toNat default) := by simp [hp.2.2]
   rw [hcut, hkk] at g1
   rw [setE_cons, eE_mk]
   by_cases hy : ys = []
   ·subst hy
    refine ⟨b, off + x.toNat * 3, c, e, fr, ?_, by simp, hb, by omega, fun h' c' hf hb' hc' => ?_⟩
    ·refine ⟨b, off, _, _, c, e, fr, rfl, hb, .inl ⟨rfl, rfl, rfl⟩⟩
    ·have hg := g2 h' (eE v) G cv (fun a ha => hf a (fun e => by subst e; exact ha.elim hbA hbC)) (hv.frame fun a ha => hf a (fun e => by subst e; exact hd a (by simp) ha)) (eE_size v)
     rw [← cut_put hcv hxl (by simpa using hce), ← hc', ← List.map_set] at hg
     rw [setE_nil]
     have hcs : c'.size = c.size := by rw [← Array.length_toList, hc']; simp [hcv]; omega
     refine ⟨b :: (A ++ (G ++ C)), ?_, ?_, ?_⟩
     ·have := eE_intro (k := k) (n := n) (ks := ks.set x.toNat v) hnn (by simpa using hcap) (by simpa using hmx) hb' (by rw [hcs]; exact hsz) (by simpa using hg)
      rw [eE_mk] at this
      simpa using this
     ·refine List.nodup_cons.2 ⟨?_, List.nodup_append.2 ⟨hAnd, List.nodup_append.2 ⟨hG, hCn, ?_⟩, ?_⟩⟩
      ·simp [hbA, hbC]; exact hd b (by simp)
      ·rintro a h1 _ h2 rfl; exact hd a (by simp [h2]) h1
      ·rintro a h1 _ h2 rfl
       rcases List.mem_append.1 h2 with h2 | h2
       ·exact hd a (by simp [h1]) h2
       ·exact hAC a h1 h2
     ·intro a ha
      simp at ha ⊢
      rcases ha with h | h | h | h <;> simp [h]
   ·obtain ⟨b', o', cc, e', fr', l1, l2, l3, l4, l5⟩ := loc_set hv hG ys _ _ B _ hy g1 hBn ha (fun a h1 => hd a (by simp [h1]))
    refine ⟨b', o', cc, e', fr', ⟨b, off, _, _, c, e, fr, rfl, hb, .inr ⟨hy, l1⟩⟩, by simp [l2], l3, l4, fun h' c' hf hb' hc' => ?_⟩
    obtain ⟨B', m1, m2, m3⟩ := l5 h' c' hf hb' hc'
    have hbb : b ≠ b' := fun h => hbB (h ▸ l2)
    have hg := g2 h' _ B' _ (fun a ha => hf a (fun e => by subst e; exact ha.elim (fun ha => hAB a ha l2) (fun ha => hBC' a l2 ha))) m1 (eE_size _)
    rw [Nat.mul_comm] at hg
    have hcc : (c.toList.drop off).take (ks.length * 3) = ((c.toList.drop off).take (ks.length * 3)).take (x.toNat * 3) ++ ((c.toList.drop (off + x.toNat * 3)).take 3 ++ ((c.toList.drop off).take (ks.length * 3)).drop (x.toNat * 3 + 3)) := by
     rw [← hcut, ← List.append_assoc, ← List.take_add, List.take_append_drop]
    rw [Nat.mul_comm 3, ← hcc, ← List.map_set] at hg
    refine ⟨b :: (A ++ (B' ++ C)), ?_, ?_, ?_⟩
    ·have := eE_intro (k := k) (n := n) (ks := ks.set x.toNat _) hnn (by simpa using hcap) (by simpa using hmx) ((hf b hbb).trans hb) hsz (by simpa using hg)
     rw [eE_mk] at this
     simpa using this
    ·refine List.nodup_cons.2 ⟨?_, List.nodup_append.2 ⟨hAnd, List.nodup_append.2 ⟨m2, hCn, ?_⟩, ?_⟩⟩
     ·simp only [List.mem_append, not_or]
      exact ⟨hbA, fun h => (m3 b h).elim hbB (hd b (by simp)), hbC⟩
     ·rintro a h1 _ h2 rfl; exact (m3 a h1).elim (fun h => hBC' a h h2) (hd a (by simp [h2]))
     ·rintro a h1 _ h2 rfl
      rcases List.mem_append.1 h2 with h2 | h2
      ·exact (m3 a h2).elim (hAB a h1) (hd a (by simp [h1]))
      ·exact hAC a h1 h2
    ·intro a ha
     simp at ha ⊢
     rcases ha with h | h | h | h
     ·simp [h]
     ·simp [h]
     ·rcases m3 a h with h | h <;> simp [h]
     ·simp [h]
  ·cases ha
end Go.Ax
