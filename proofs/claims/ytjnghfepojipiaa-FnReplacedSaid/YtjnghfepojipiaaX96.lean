/- Contracts of functions of the seat, proved over the engine. No condition. -/
import Derived.Test.YtjnghfepojipiaaX95
set_option linter.unusedSimpArgs false
set_option linter.unusedVariables false
set_option linter.unnecessarySimpa false
namespace Go.Ax

theorem repL_swap {h : Heap} {sz : Nat} {ds : List D} {F : List Nat} {cs : List Value} {i : Nat} (hr : RepL h ds F cs) (hs : ∀ d ∈ ds, d.size = sz) (hi : i < ds.length) :
  ∃ B, Rep h ds[i] B ((cs.drop (i * sz)).take sz) ∧ ∀ d', Rep h d' B ((cs.drop (i * sz)).take sz) → d'.size = sz → RepL h (ds.set i d') F cs := by
 obtain ⟨A, B, C, rfl, g1, g2⟩ := repL_one hr hs hi
 refine ⟨B, g1, fun d' hd hz => ?_⟩
 have := g2 h d' B _ (fun _ _ => rfl) hd hz
 rwa [← List.drop_drop, List.take_append_drop, List.take_append_drop] at this

theorem ls_mk {h : Heap} {nn : Option Bool} {ds : List D} {b off cap : Nat} {c : Array Value} {e fr} {F' : List Nat} {k n : Int} (h1 : nn ≠ some true) (h2 : ds.length ≤ cap) (h3 : ds.length ≤ maxEl) (h4 : h[b]? = some (.cells c e fr)) (h5 : off + cap * 3 ≤ c.size)
  (h6 : ∀ d ∈ ds, d.size = 3) (h7 : RepL h ds F' ((c.toList.drop off).take (ds.length * 3))) :
  Rep h (.ag [.sc (.int .i64 k), .sc (.int .i64 n), .ls nn 3 ds]) (b :: F') [.int .i64 k, .int .i64 n, .slice (some ⟨b, off, none⟩) ds.length cap] ∧
  Rep h (.ag [.sc (.int .i64 k), .sc (.int .i64 n), .lc b off (.ls nn 3 ds)]) (b :: F') [.int .i64 k, .int .i64 n, .slice (some ⟨b, off, none⟩) ds.length cap] := by
 constructor
 ·simp only [Rep, RepL]
  exact ⟨by simp [D.size, D.isAg], [], b :: F', [.int .i64 k], [.int .i64 n, .slice (some ⟨b, off, none⟩) ds.length cap], rfl, rfl, ⟨rfl, rfl, rfl⟩, [], b :: F', [.int .i64 n], [.slice (some ⟨b, off, none⟩) ds.length cap], rfl, rfl, ⟨rfl, rfl, rfl⟩, b :: F', [], [.slice (some ⟨b, off, none⟩) ds.length cap], [], by simp, rfl, .inr ⟨b, off, cap, c, e, fr, F', rfl, rfl, h1, h2, h3, h4, h5, h6, h7⟩, rfl, rfl⟩
 ·simp only [Rep, RepL]
  exact ⟨by simp [D.size, D.isAg], [], b :: F', [.int .i64 k], [.int .i64 n, .slice (some ⟨b, off, none⟩) ds.length cap], rfl, rfl, ⟨rfl, rfl, rfl⟩, [], b :: F', [.int .i64 n], [.slice (some ⟨b, off, none⟩) ds.length cap], rfl, rfl, ⟨rfl, rfl, rfl⟩, b :: F', [], [.slice (some ⟨b, off, none⟩) ds.length cap], [], by simp, rfl, ⟨.inl ⟨_, _, rfl⟩, .inr ⟨b, off, cap, c, e, fr, F', rfl, rfl, h1, h2, h3, h4, h5, h6, h7⟩⟩, rfl, rfl⟩

theorem sp_open {h : Heap} {k n : Int} {nn : Option Bool} {a b : Nat} {ds : List D} {F : List Nat} {cs : List Value} (hd : ds ≠ []) (hr : Rep h (.ag [.sc (.int .i64 k), .sc (.int .i64 n), .lc a b (.ls nn 3 ds)]) F cs) :
  ∃ cap c e fr F', F = a :: F' ∧ cs = [.int .i64 k, .int .i64 n, .slice (some ⟨a, b, none⟩) ds.length cap] ∧ nn ≠ some true ∧ ds.length ≤ cap ∧ ds.length ≤ maxEl ∧ h[a]? = some (.cells c e fr) ∧ b + cap * 3 ≤ c.size ∧
   (∀ d ∈ ds, d.size = 3) ∧ RepL h ds F' ((c.toList.drop b).take (ds.length * 3)) := by
 simp only [Rep, RepL] at hr
 obtain ⟨q0, F1, F2, c1, c2, rfl, rfl, ⟨rfl, rfl, q1⟩, F3, F4, c3, c4, rfl, rfl, ⟨rfl, rfl, q2⟩, F5, F6, c5, c6, rfl, rfl, ⟨hl, h3⟩, rfl, rfl⟩ := hr
 rcases h3 with ⟨p, _, h0, _⟩ | ⟨b', off, cap, c, e, fr, F', rfl, rfl, hnn, hcap, hmx, hb, hsz, hs3, hl3⟩
 ·exact absurd h0 hd
 ·simp at hl
  obtain ⟨rfl, rfl⟩ := hl
  exact ⟨cap, c, e, fr, F', by simp, rfl, hnn, hcap, hmx, hb, hsz, hs3, hl3⟩
theorem ls_open {h : Heap} {k n : Int} {nn : Option Bool} {ds : List D} {F : List Nat} {cs : List Value} (hd : ds ≠ []) (hr : Rep h (.ag [.sc (.int .i64 k), .sc (.int .i64 n), .ls nn 3 ds]) F cs) :
  ∃ a b cap c e fr F', F = a :: F' ∧ cs = [.int .i64 k, .int .i64 n, .slice (some ⟨a, b, none⟩) ds.length cap] ∧ nn ≠ some true ∧ ds.length ≤ cap ∧ ds.length ≤ maxEl ∧ h[a]? = some (.cells c e fr) ∧ b + cap * 3 ≤ c.size ∧
   (∀ d ∈ ds, d.size = 3) ∧ RepL h ds F' ((c.toList.drop b).take (ds.length * 3)) := by
 simp only [Rep, RepL] at hr
 obtain ⟨q0, F1, F2, c1, c2, rfl, rfl, ⟨rfl, rfl, q1⟩, F3, F4, c3, c4, rfl, rfl, ⟨rfl, rfl, q2⟩, F5, F6, c5, c6, rfl, rfl, h3, rfl, rfl⟩ := hr
 rcases h3 with ⟨p, _, h0, _⟩ | ⟨b', off, cap, c, e, fr, F', rfl, rfl, hnn, hcap, hmx, hb, hsz, hs3, hl3⟩
 ·exact absurd h0 hd
 ·exact ⟨b', off, cap, c, e, fr, F', by simp, rfl, hnn, hcap, hmx, hb, hsz, hs3, hl3⟩

theorem spE_un {h : Heap} : ∀ (xs : List Int) (as : List (Nat × Nat)) (t : Ex) (F : List Nat) (cs : List Value), Rep h (spE xs as t) F cs → Rep h (eE t) F cs
 | [], as, t, F, cs, hr => by rwa [spE_nil] at hr
 | x :: xs, [], t, F, cs, hr => by rwa [spE_nila] at hr
 | x :: xs, a :: as, t, F, cs, hr => by
  obtain ⟨k, n, nn, ks, rfl⟩ := Ex.ex t
  rw [spE_cons] at hr
  split at hr
  ·next hi =>
   have hp := isIn_lt hi
   have hlen : x.toNat < (ks.map eE).length := by simpa using hp.2.2
   obtain ⟨cap, c, e, fr, F', rfl, rfl, h1, h2, h3, h4, h5, h6, h7⟩ := sp_open (by intro h0; have := congrArg List.length h0; simp at this; rw [this] at hp; simp at hp) hr
   obtain ⟨B, g1, g2⟩ := repL_swap h7 h6 (i := x.toNat) (by simpa using hlen)
   rw [List.getElem_set_self] at g1
   have := g2 (eE (ks.getD x.toNat default)) (spE_un xs as _ _ _ g1) (eE_size _)
   rw [List.set_set, show (ks.map eE).set x.toNat (eE (ks.getD x.toNat default)) = ks.map eE by
    apply List.ext_getElem?; intro i; rw [List.getElem?_set]; split
    ·next h => subst h; simp [hp.2.2]
    ·rfl] at this
   rw [eE_mk]
   simp only [List.length_set] at *
   exact (ls_mk h1 h2 h3 h4 h5 (by intro d hd; obtain ⟨y, _, rfl⟩ := List.mem_map.1 hd; exact eE_size y) this).1
  ·exact hr

theorem spE_ex {h : Heap} : ∀ (xs : List Int) (t : Ex) (F : List Nat) (cs : List Value), Rep h (eE t) F cs → ∃ as, as.length = xs.length ∧ Rep h (spE xs as t) F cs
 | [], t, F, cs, hr => ⟨[], rfl, by rwa [spE_nil]⟩
 | x :: xs, t, F, cs, hr => by
  obtain ⟨k, n, nn, ks, rfl⟩ := Ex.ex t
  cases hi : isIn x 0 ((ks.length : Int) - 1)
  ·refine ⟨List.replicate (xs.length + 1) (0, 0), by simp, ?_⟩
   rw [List.replicate_succ, spE_cons, hi]
   simpa using hr
  ·have hp := isIn_lt hi
   have hlen : x.toNat < (ks.map eE).length := by simpa using hp.2.2
   rw [eE_mk] at hr
   obtain ⟨a, b, cap, c, e, fr, F', rfl, rfl, h1, h2, h3, h4, h5, h6, h7⟩ := ls_open (by intro h0; have := congrArg List.length h0; simp at this; rw [this] at hp; simp at hp) hr
   obtain ⟨B, g1, g2⟩ := repL_swap h7 h6 hlen
   have hk : (ks.map eE)[x.toNat] = eE (ks.getD x.toNat default) := by simp [hp.2.2]
   rw [hk] at g1
   obtain ⟨as, e1, e2⟩ := spE_ex xs _ _ _ g1
   refine ⟨(a, b) :: as, by simp [e1], ?_⟩
   rw [spE_cons, hi]
   simp only [if_true]
   have := g2 _ e2 spE_size.1
   have hs : ∀ d ∈ (ks.map eE).set x.toNat (spE xs as (ks.getD x.toNat default)), d.size = 3 := by
    intro d hd
    rcases List.mem_or_eq_of_mem_set hd with hd | rfl
    ·exact h6 d hd
    ·exact spE_size.1
   have := (ls_mk (k := k) (n := n) (h := h) (ds := (ks.map eE).set x.toNat (spE xs as (ks.getD x.toNat default))) h1 (by simpa using h2) (by simpa using h3) h4 h5 hs (by simpa using this)).2
   simpa using this

theorem spE_loc {h : Heap} : ∀ (xs : List Int) (as : List (Nat × Nat)) (p : Nat × Nat) (t : Ex) (bo : Bool) (F : List Nat) (cs : List Value), as.length = xs.length → xs ≠ [] → (atE t xs bo).2.2 = true → Rep h (spE xs as t) F cs →
  Loc h xs cs (locE p xs as t).1 (locE p xs as t).2
 | [], _, _, _, _, _, _, _, hx, _, _ => absurd rfl hx
 | x :: xs, [], _, _, _, _, _, hl, _, _, _ => by simp at hl
 | x :: xs, a :: as, p, t, bo, F, cs, hl, hx, ha, hr => by
  obtain ⟨k, n, nn, ks, rfl⟩ := Ex.ex t
  rw [atE, Ex.ks_mk, Ex.k_mk] at ha
  split at ha
  ·next hi =>
   have hp := isIn_lt hi
   have hlen : x.toNat < (ks.map eE).length := by simpa using hp.2.2
   rw [spE_cons, if_pos hi] at hr
   rw [locE_cons, if_pos hi]
   obtain ⟨cap, c, e, fr, F', rfl, rfl, h1, h2, h3, h4, h5, h6, h7⟩ := sp_open (by intro h0; have := congrArg List.length h0; simp at this; rw [this] at hp; simp at hp) hr
   obtain ⟨B, g1, g2⟩ := repL_swap h7 h6 (i := x.toNat) (by simpa using hlen)
   rw [List.getElem_set_self] at g1
   have hxl : x.toNat * 3 + 3 ≤ ks.length * 3 := by have := hp.2.2; omega
   rw [List.drop_take, List.take_take, List.drop_drop, Nat.min_eq_left (by simp; omega)] at g1
   refine ⟨a.1, a.2, _, cap, c, e, fr, rfl, h4, ?_⟩
   cases xs with
   | nil => exact .inl ⟨rfl, by rw [locE_nil], by rw [locE_nil]⟩
   | cons y ys => exact .inr ⟨by simp, spE_loc (y :: ys) as _ _ _ _ _ (by simpa using hl) (by simp) ha g1⟩
  ·cases ha
theorem loc_uniq {h : Heap} : ∀ (xs : List Int) (cs : List Value) (b o b' o' : Nat), Loc h xs cs b o → Loc h xs cs b' o' → b = b' ∧ o = o'
 | [], _, _, _, _, _, h1, _ => by cases h1
 | x :: xs, cs, b, o, b', o', h1, h2 => by
  obtain ⟨kb, ko, len, cap, c, e, fr, p1, p2, p3⟩ := h1
  obtain ⟨kb', ko', len', cap', c', e', fr', q1, q2, q3⟩ := h2
  rw [p1] at q1
  simp at q1
  obtain ⟨⟨rfl, rfl⟩, rfl, rfl⟩ := q1
  rw [p2] at q2
  cases q2
  rcases p3 with ⟨rfl, rfl, rfl⟩ | ⟨hx, p3⟩
  ·rcases q3 with ⟨_, rfl, rfl⟩ | ⟨hx, _⟩
   ·exact ⟨rfl, rfl⟩
   ·exact absurd rfl hx
  ·rcases q3 with ⟨rfl, _⟩ | ⟨_, q3⟩
   ·exact absurd rfl hx
   ·exact loc_uniq xs _ _ _ _ _ p3 q3
end Go.Ax
