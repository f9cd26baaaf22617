/- Contracts of functions of the seat, proved over the engine. No condition. -/
import Derived.Test.YtohakobkclkniaaDoorX81
import Derived.Shelf.Strings.Builder1
set_option linter.unusedSimpArgs false
set_option linter.unusedVariables false
set_option linter.unnecessarySimpa false
namespace Go.Ax
open Go.Proofs Go.Shelf Go.RowKit
variable {P : Program} {ρ : Ren}

theorem appendSb {w : World} (t u ty e : TypeId) (i : TypeInfo) (ht : P.underlying t = some (.slice e)) (hu : P.underlying u = some .string) (hi : P.info? e = some i) (hz : i.zero = some (.int .u8 0))
  (hsize : i.size = 1) (hby : i.bytes = 1) (v : Value) (n : Nat) (xs : List Value) (hown : w.ownsRow 0 e 1 v n xs) (s : ByteArray) (h63 : n + s.size ≤ maxLen) (hbytes : n + s.size ≤ 140737488355328) :
  ∃ v' w', (Builtin.append_ #[t, u] ty #[v, .string s]).run P w = .ok v' w' ∧ w'.ownsRow 0 e 1 v' (n + s.size) (xs ++ Lib.strCells s) ∧ w.grownBy w' v.ownBlock ∧ ∀ k, v'.ownBlock = some k → v.ownBlock = some k ∨ w.heap.size ≤ k := by
 obtain ⟨v', w', hr, h2, h3, _⟩ := Lib.run_append_own_string (P := P) w 0 t u ty e i ht hu hi hz hsize hby v n xs hown s h63 hbytes (Nat.zero_le _)
 refine ⟨v', w', hr, h2, h3, fun k hk => ?_⟩
 rcases hown.2 with ⟨rfl, rfl⟩ | ⟨g, cap, cur, rfl, hbg, hg, hnc, hcm, hcs, htake⟩
 ·have hown2 : w.ownsRow w.heap.size e 1 (.slice none 0 0) 0 xs := ⟨hown.1, .inl ⟨rfl, rfl⟩⟩
  obtain ⟨v2, w2, hr2, h22, _, _⟩ := Lib.run_append_own_string (P := P) w w.heap.size t u ty e i ht hu hi hz hsize hby _ 0 xs hown2 s h63 hbytes (Nat.le_refl _)
  rw [hr] at hr2
  injection hr2 with e1 e2
  subst e1
  rcases h22.2 with ⟨rfl, _⟩ | ⟨g', cap', cur', rfl, hb', _⟩
  ·cases hk
  ·injection hk with hk
   subst hk
   exact .inr hb'
 ·by_cases hroom : n + s.size ≤ cap
  ·have hr2 := Lib.run_append_room_string (P := P) w t u ty e i ht hu hi hsize g n cap cur hg s hroom (by omega)
   rw [hr] at hr2
   injection hr2 with e1 e2
   subst e1
   exact .inl hk
  ·have holds : ∀ j u, xs[j]? = some u → w.cell? ((⟨g, 0, none⟩ : Addr).add j) = some u := hown.cells (g := g) rfl
   have hxl : xs.length = n := by simpa using hown.1
   have hr2 := Lib.run_append_grow_string (P := P) w t u ty e i (.int .u8 0) ht hu hi hz ⟨g, 0, none⟩ n cap xs (by rw [hsize]; simpa using hxl) holds s (by omega) (by simp only [maxLen] at h63; omega) (by rw [hby]; exact growslice_fits (by omega) (by omega))
   rw [hr] at hr2
   injection hr2 with e1 e2
   subst e1
   injection hk with hk
   subst hk
   exact .inr (Nat.le_refl _)

theorem wpAppendSb {ops : Array Oper} {rest : List Oper} {o : Oper} {a : Act} {w : World} {Q : Exit → Act → World → Prop} (hgd : o.guard = none) (sl x : Operand) (t u : TypeId)
  (ho : o.op = .call { callee := .builtin .append, args := #[sl, x], argTypes := #[t, u] })
  (e : TypeId) (i : TypeInfo) (ht : P.underlying t = some (.slice e)) (hu : P.underlying u = some .string) (hi : P.info? e = some i) (hz : i.zero = some (.int .u8 0))
  (hsize : i.size = 1) (hby : i.bytes = 1)
  (v : Value) (n : Nat) (xs : List Value) (hs : a.eval sl = v) (hown : w.ownsRow 0 e 1 v n xs) (s : ByteArray) (hx : a.eval x = .string s)
  (h63 : n + s.size ≤ maxLen) (hbytes : n + s.size ≤ 140737488355328)
  (h : ∀ v' w', w'.ownsRow 0 e 1 v' (n + s.size) (xs ++ Lib.strCells s) → w.grownBy w' v.ownBlock → (∀ k, v'.ownBlock = some k → v.ownBlock = some k ∨ w.heap.size ≤ k) → wpList P ops Q rest (a.put o.dst v') w') : wpList P ops Q (o :: rest) a w := by
 refine wpList_plain hgd fun K hK => ?_
 obtain ⟨v', w', hr, h2, h3, h4⟩ := appendSb (P := P) (w := w) t u o.type e i ht hu hi hz hsize hby v n xs hown s h63 hbytes
 unfold Oper.wp execOp
 simp only [ho, resolve, invoke, builtin, Sem.run_bind, Sem.run_pure, Result.andThen_ok, List.map_toArray, List.map_cons, List.map_nil, hs, hx, hr]
 exact hK _ _ (h v' w' h2 h3 h4)

theorem sb_own {w : World} {E : Nat} {s : ByteArray} {F : List Nat} {bv : Value} (h : SbBuf w.heap E s F bv) : w.ownsRow 0 E 1 bv s.size (sbCells s) ∧ ∀ k, bv.ownBlock = some k ↔ k ∈ F := by
 have hl : (sbCells s).length = s.size := by
  show (s.data.toList.map _).length = s.data.size
  rw [List.length_map, Array.length_toList]
 rcases h with ⟨rfl, h0, rfl⟩ | ⟨g, cap, cur, rfl, rfl, hg, h1, h2, h3, h4⟩
 ·exact ⟨⟨by simpa using hl, .inl ⟨rfl, h0⟩⟩, fun k => by simp [Value.ownBlock]⟩
 ·exact ⟨⟨by simpa using hl, .inr ⟨g, cap, cur, rfl, Nat.zero_le _, hg, h1, h2, by simpa using h3, by simpa using h4⟩⟩, fun k => by simp [Value.ownBlock, eq_comm]⟩

theorem own_sb {w : World} {E : Nat} {s : ByteArray} {bv : Value} {xs : List Value} (h : w.ownsRow 0 E 1 bv s.size xs) (hx : xs = sbCells s) : ∃ F, SbBuf w.heap E s F bv ∧ ∀ k, bv.ownBlock = some k ↔ k ∈ F := by
 subst hx
 rcases h.2 with ⟨rfl, h0⟩ | ⟨g, cap, cur, rfl, _, hg, h1, h2, h3, h4⟩
 ·exact ⟨[], .inl ⟨rfl, h0, rfl⟩, fun k => by simp [Value.ownBlock]⟩
 ·exact ⟨[g], .inr ⟨g, cap, cur, rfl, rfl, hg, h1, h2, by simpa using h3, by simpa using h4⟩, fun k => by simp [Value.ownBlock, eq_comm]⟩

theorem ccB (L : Lays.n240 P ρ) (X : Builder.X72 P ρ) (b : Nat) (ad bv : Value) (w : World) (h1 : w.heap[b]? = some (.cells #[ad, bv] (ρ.t 72) (0, 0))) (h2 : ad = .pointer none ∨ ad = .pointer (some ⟨b, 0, none⟩)) :
  Calls P (ρ.f 240) #[.pointer (some ⟨b, 0, none⟩)] w fun e w' => e = .returned (.tuple #[]) ∧ w'.heap[b]? = some (.cells #[.pointer (some ⟨b, 0, none⟩), bv] (ρ.t 72) (0, 0)) ∧
   w'.os = w.os ∧ w'.tape = w.tape ∧ w'.output = w.output ∧ w'.heap.size = w.heap.size ∧ ∀ x, x ≠ b → w'.heap[x]? = w.heap[x]? := by
 rcases h2 with rfl | rfl
 ·refine (Any.Builder_copyCheck_fresh L X b w (by simp [World.cell?, h1]) (by simp [World.shape?, h1]) (by simp [World.frozen?, h1])).mono ?_
  rintro e w' ⟨rfl, rfl⟩
  exact ⟨rfl, by simp [World.setCell, Array.getElem?_modify, h1], rfl, rfl, rfl, by simp [World.setCell], fun x hx => Below.heap_setCell _ _ _ _ hx⟩
 ·refine (Any.Builder_copyCheck_used L X b w (by simp [World.cell?, h1])).mono ?_
  rintro e w' ⟨rfl, rfl⟩
  exact ⟨rfl, h1, rfl, rfl, rfl, rfl, fun _ _ => rfl⟩

theorem sbCells_app {s t : ByteArray} : sbCells (s ++ t) = sbCells s ++ Lib.strCells t := by
 simp [sbCells, Lib.strCells]

set_option maxHeartbeats 2000000 in
set_option maxRecDepth 100000 in
theorem wrS_run (L : Lays.n166 P ρ) (X : Builder.Extra P ρ) (b : Nat) (s t : ByteArray) (F : List Nat) (w : World) (hz : s.size + t.size ≤ 140737488355328) (h : SbAt w.heap (ρ.t 72) (ρ.t 5) s b F) (hnb : b ∉ F) :
  Calls P (ρ.f 166) #[.pointer (some ⟨b, 0, none⟩), .string t] w fun e w' => e = .returned (.tuple #[.int .i64 t.size, .nilIface]) ∧ w'.os = w.os ∧ w'.tape = w.tape ∧ w'.output = w.output ∧ w.heap.size ≤ w'.heap.size ∧
   (∀ x, x < w.heap.size → x ∉ b :: F → w'.heap[x]? = w.heap[x]?) ∧ ∃ F', SbAt w'.heap (ρ.t 72) (ρ.t 5) (s ++ t) b F' ∧ b ∉ F' ∧ ∀ x ∈ F', x ∈ F ∨ w.heap.size ≤ x := by
 obtain ⟨ad, bv, h1, h2, h3⟩ := h
 obtain ⟨i0, hi, hz0, hz1, hz2⟩ := info_parts X.infoByte
 have mixed := L.mixed
 have t72 := L.t72; have a72 := L.a72; have z72 := L.z72; have v72 := L.v72; have u72 := run_underlying L.t72
 have t70 := L.t70; have a70 := L.a70; have z70 := L.z70; have v70 := L.v70; have u70 := run_underlying L.t70
 have t37 := L.t37; have a37 := L.a37; have z37 := L.z37; have v37 := L.v37; have u37 := run_underlying L.t37
 have t3 := L.t3; have a3 := L.a3; have z3 := L.z3; have v3 := L.v3; have u3 := run_underlying L.t3
 have t9 := L.t9; have a9 := L.a9; have z9 := L.z9; have v9 := L.v9; have u9 := run_underlying L.t9
 have t4 := L.t4; have a4 := L.a4; have z4 := L.z4; have v4 := L.v4; have u4 := run_underlying L.t4
 have t164 := L.t164; have a164 := L.a164; have z164 := L.z164; have v164 := L.v164; have u164 := run_underlying L.t164
 have t5 := X.t5; have a5 := X.a5; have z5 := X.z5; have v5 := X.v5; have u5 := run_underlying X.t5
 have e240 : ∀ args w, (callFunc (ρ.f 240) args).run P w = .ok (.enter (ρ.f 240) args) w := enters_of L.f240 (by kernel_rfl) rfl
 have hlt : b < w.heap.size := (Array.getElem?_eq_some_iff.1 h1).1
 go_enter L.f166, Body.n166_ntmps ρ
 go_wp2_with (go_at_fn (ρ.f 240); refine (ccB { L with } X.toX72 b ad bv _ h1 h2).mono ?_)
 rintro e w1 ⟨rfl, hb1, k1, k2, k3, k4, k5⟩
 have h3' : SbBuf w1.heap (ρ.t 5) s F bv := h3.frame fun x hx => k5 x (fun e => hnb (e ▸ hx))
 obtain ⟨hown, hblk⟩ := sb_own h3'
 have c0 : w1.cell? ⟨b, 0, none⟩ = some (.pointer (some ⟨b, 0, none⟩)) := by rw [Lib.cell_of_heap hb1]; rfl
 have c1 : w1.cell? ⟨b, 1, none⟩ = some bv := by rw [Lib.cell_of_heap hb1]; rfl
 go_wp2_with (at_builtin; refine wpAppendSb rfl _ _ (ρ.t 37) (ρ.t 9) rfl (ρ.t 5) i0 L.t37 L.t9 hi hz0 hz1 hz2 _ _ _ rfl hown t rfl ?c3 ?c4 ?_)
 case c3 => unfold maxLen; omega
 case c4 => omega
 intro v' w2 hown' hgrow hwhere
 have hb2 : w2.heap[b]? = some (.cells #[.pointer (some ⟨b, 0, none⟩), bv] (ρ.t 72) (0, 0)) := by
  rw [hgrow.block b (by omega) (fun e => hnb ((hblk b).1 e.symm))]
  exact hb1
 have d0 : w2.cell? ⟨b, 0, none⟩ = some (.pointer (some ⟨b, 0, none⟩)) := by rw [Lib.cell_of_heap hb2]; rfl
 have d1 : w2.cell? ⟨b, 1, none⟩ = some bv := by rw [Lib.cell_of_heap hb2]; rfl
 have f1 : w2.frozen? ⟨b, 1, none⟩ = false := Lib.frozen_of_heap hb2 1
 obtain ⟨ao, n', cap, rfl⟩ : ∃ ao n' cap, v' = .slice ao n' cap := by
  rcases hown'.2 with ⟨hv, _⟩ | ⟨g, cap, cur, hv, _⟩
  ·exact ⟨_, _, _, hv⟩
  ·exact ⟨_, _, _, hv⟩
 go_wp2
 go_ret2
 rw [← ByteArray.size_append] at hown'
 obtain ⟨F', q1, q2⟩ := own_sb hown' sbCells_app.symm
 have hbF : b ∉ F' := by
  intro hx
  rcases hwhere b ((q2 b).2 hx) with hx | hx
  ·exact hnb hx
  ·omega
 refine ⟨rfl, ?_, ?_, ?_, ?_, ?_, F', ⟨.pointer (some ⟨b, 0, none⟩), .slice ao n' cap, ?_, .inr rfl, ?_⟩, hbF, ?_⟩
 ·exact hgrow.os.trans k1
 ·exact hgrow.tape.trans k2
 ·exact hgrow.output.trans k3
 ·have := hgrow.size
  simp [World.setCell]
  omega
 ·intro x hx hn
  have hn2 : x ≠ b ∧ x ∉ F := by simpa using hn
  rw [show (w2.setCell ⟨b, 1, none⟩ (.slice ao n' cap)).heap[x]? = w2.heap[x]? from Below.heap_setCell _ _ _ _ hn2.1, hgrow.block x (by omega) (fun e => hn2.2 ((hblk x).1 e.symm)), k5 x hn2.1]
 ·simp [World.setCell, Array.getElem?_modify, hb2]
 ·exact q1.frame fun x hx => Below.heap_setCell _ _ _ _ (fun e => hbF (by have e' : x = b := e; subst e'; exact hx))
 ·intro x hx
  rcases hwhere x ((q2 x).2 hx) with hx | hx
  ·exact .inl hx
  ·exact .inr (by omega)

theorem freeze_out (w : World) (g n : Nat) : (w.freeze ⟨g, 0, none⟩ n).os = w.os ∧ (w.freeze ⟨g, 0, none⟩ n).tape = w.tape ∧ (w.freeze ⟨g, 0, none⟩ n).output = w.output ∧ (w.freeze ⟨g, 0, none⟩ n).heap.size = w.heap.size ∧ ∀ x, x ≠ g → (w.freeze ⟨g, 0, none⟩ n).heap[x]? = w.heap[x]? := by
 unfold World.freeze
 split
 ·exact ⟨rfl, rfl, rfl, rfl, fun _ _ => rfl⟩
 ·exact ⟨rfl, rfl, rfl, by simp, fun x hx => by simp only [Array.getElem?_modify]; rw [if_neg (fun e => hx e.symm)]⟩
set_option maxHeartbeats 2000000 in
set_option maxRecDepth 100000 in
theorem bdS_run (L : Lays.n169 P ρ) (X : Builder.Extra P ρ) (b : Nat) (s : ByteArray) (F : List Nat) (w : World) (h : SbAt w.heap (ρ.t 72) (ρ.t 5) s b F) (hnb : b ∉ F) :
  Calls P (ρ.f 169) #[.pointer (some ⟨b, 0, none⟩)] w fun e w' => e = .returned (.string s) ∧ w'.os = w.os ∧ w'.tape = w.tape ∧ w'.output = w.output ∧ w.heap.size ≤ w'.heap.size ∧
   ∀ x, x < w.heap.size → x ∉ b :: F → w'.heap[x]? = w.heap[x]? := by
 obtain ⟨ad, bv, h1, h2, h3⟩ := h
 have hlt : b < w.heap.size := (Array.getElem?_eq_some_iff.1 h1).1
 have hl : s.data.toList.length = s.size := by rw [Array.length_toList]; rfl
 have hUS0 := Any.unsafeString_none L X
 have mixed := L.mixed
 have t72 := L.t72; have a72 := L.a72; have z72 := L.z72; have v72 := L.v72; have u72 := run_underlying L.t72
 have t70 := L.t70; have a70 := L.a70; have z70 := L.z70; have v70 := L.v70; have u70 := run_underlying L.t70
 have t37 := L.t37; have a37 := L.a37; have z37 := L.z37; have v37 := L.v37; have u37 := run_underlying L.t37
 have t127 := L.t127; have a127 := L.a127; have z127 := L.z127; have v127 := L.v127; have u127 := run_underlying L.t127
 have t3 := L.t3; have a3 := L.a3; have z3 := L.z3; have v3 := L.v3; have u3 := run_underlying L.t3
 have t9 := L.t9; have a9 := L.a9; have z9 := L.z9; have v9 := L.v9; have u9 := run_underlying L.t9
 have t5 := X.t5; have a5 := X.a5; have z5 := X.z5; have v5 := X.v5; have u5 := run_underlying X.t5
 by_cases h0 : s.size = 0
 ·have hs : s = ⟨#[]⟩ := by
   cases s with
   | mk a =>
    have : a.size = 0 := h0
    rw [Array.eq_empty_of_size_eq_zero this]
  subst hs
  rcases h3 with ⟨rfl, _, rfl⟩ | ⟨g, cap, cur, rfl, rfl, hg, q1, q2, q3, q4⟩
  ·have c1 : w.drew.cell? ⟨b, 1, none⟩ = some (.slice none 0 0) := by
    have : w.drew.heap[b]? = some (.cells #[ad, .slice none 0 0] (ρ.t 72) (0, 0)) := h1
    rw [Lib.cell_of_heap this]; rfl
   have hSD : (Builtin.unsafeSliceData_ #[(ρ.t 37)] (ρ.t 127) #[.slice none 0 0]).run P w.drew = .ok (.pointer none) w.drew := rfl
   have hUS := hUS0
   go_enter L.f169, Body.n169_ntmps ρ
   go_wp2
   go_region_o
   all_goals (go_wp2; go_ret; exact ⟨rfl, rfl, rfl, rfl, Nat.le_refl _, fun _ _ _ => rfl⟩)
  ·by_cases hc0 : cap = 0
   ·subst hc0
    have hUS := hUS0
    have c1 : w.drew.cell? ⟨b, 1, none⟩ = some (.slice (some ⟨g, 0, none⟩) 0 0) := by
     have : w.drew.heap[b]? = some (.cells #[ad, .slice (some ⟨g, 0, none⟩) 0 0] (ρ.t 72) (0, 0)) := h1
     rw [Lib.cell_of_heap this]; rfl
    have hSD : (Builtin.unsafeSliceData_ #[(ρ.t 37)] (ρ.t 127) #[.slice (some ⟨g, 0, none⟩) 0 0]).run P w.drew = .ok (.pointer (some ⟨w.drew.heap.size, 0, none⟩)) (w.drew.alloc (.view ⟨g, 0, none⟩ (ρ.t 5))) :=
     Lib.run_unsafeSliceData_zero w.drew _ _ (ρ.t 5) L.t127 ⟨g, 0, none⟩ 0 ((ρ.t 5), cur.size) (by have hg' : w.drew.heap[g]? = some (.cells cur (ρ.t 5) (0, 0)) := hg; simp [World.shape?, hg'])
    have c2 : (w.drew.alloc (.view ⟨g, 0, none⟩ (ρ.t 5))).cell? ⟨b, 1, none⟩ = some (.slice (some ⟨g, 0, none⟩) 0 0) := by
     have : (w.drew.alloc (.view ⟨g, 0, none⟩ (ρ.t 5))).heap[b]? = _ := (Lib.alloc_old w.drew _ b hlt).trans h1
     rw [Lib.cell_of_heap this]; rfl
    have c3 : (w.alloc (.view ⟨g, 0, none⟩ (ρ.t 5))).drew.cell? ⟨b, 1, none⟩ = some (.slice (some ⟨g, 0, none⟩) 0 0) := c2
    have c0 : w.cell? ⟨b, 1, none⟩ = some (.slice (some ⟨g, 0, none⟩) 0 0) := c1
    go_enter L.f169, Body.n169_ntmps ρ
    go_wp2
    go_region_o
    all_goals (go_wp2; go_ret; exact ⟨rfl, rfl, rfl, rfl, by show w.heap.size ≤ (w.drew.alloc _).heap.size; rw [World.size_alloc]; exact Nat.le_succ _, fun x hx _ => Lib.alloc_old w.drew _ x hx⟩)
   ·have hUS := hUS0
    have c1 : w.drew.cell? ⟨b, 1, none⟩ = some (.slice (some ⟨g, 0, none⟩) 0 cap) := by
     have : w.drew.heap[b]? = some (.cells #[ad, .slice (some ⟨g, 0, none⟩) 0 cap] (ρ.t 72) (0, 0)) := h1
     rw [Lib.cell_of_heap this]; rfl
    have hSD : (Builtin.unsafeSliceData_ #[(ρ.t 37)] (ρ.t 127) #[.slice (some ⟨g, 0, none⟩) 0 cap]).run P w.drew = .ok (.pointer (some ⟨g, 0, none⟩)) w.drew :=
     Lib.run_unsafeSliceData_row _ _ _ _ _ _ hc0
    clear hc0
    go_enter L.f169, Body.n169_ntmps ρ
    go_wp2
    go_region_o
    all_goals (go_wp2; go_ret; exact ⟨rfl, rfl, rfl, rfl, Nat.le_refl _, fun _ _ _ => rfl⟩)
 ·rcases h3 with ⟨_, hz, _⟩ | ⟨g, cap, cur, rfl, rfl, hg, q1, q2, q3, q4⟩
  ·exact absurd hz h0
  have hown : w.ownsRow 0 (ρ.t 5) 1 (.slice (some ⟨g, 0, none⟩) s.size cap) s.size (sbCells s) := (sb_own (.inr ⟨g, cap, cur, rfl, rfl, hg, q1, q2, q3, q4⟩)).1
  have c1 : w.drew.cell? ⟨b, 1, none⟩ = some (.slice (some ⟨g, 0, none⟩) s.size cap) := by
   have : w.drew.heap[b]? = some (.cells #[ad, .slice (some ⟨g, 0, none⟩) s.size cap] (ρ.t 72) (0, 0)) := h1
   rw [Lib.cell_of_heap this]; rfl
  have hSD : (Builtin.unsafeSliceData_ #[(ρ.t 37)] (ρ.t 127) #[.slice (some ⟨g, 0, none⟩) s.size cap]).run P w.drew = .ok (.pointer (some ⟨g, 0, none⟩)) w.drew :=
   Lib.run_unsafeSliceData_row _ _ _ _ _ _ (by omega)
  have hUS : (Builtin.unsafeString_ #[(ρ.t 127), (ρ.t 3)] (ρ.t 9) #[.pointer (some ⟨g, 0, none⟩), .int .i64 s.size]).run P w.drew = .ok (.string s) (w.drew.freeze ⟨g, 0, none⟩ s.size) := by
   have hr := Lib.run_unsafeString_row (P := P) w.drew (ρ.t 127) (ρ.t 3) (ρ.t 9) (ρ.t 5) L.t127 X.cellsByte g cur.size (by have hg' : w.drew.heap[g]? = some (.cells cur (ρ.t 5) (0, 0)) := hg; simp [World.shape?, hg']) s.data.toList (by intro e; rw [e] at hl; exact h0 (by simpa using hl.symm)) (by omega) (by unfold maxEl at q2; omega) (by
    intro j x hx
    have := hown.cells (g := g) rfl j (.int .u8 x.toNat) (by simp [sbCells, hx])
    exact this)
   rw [hl] at hr
   exact hr
  go_enter L.f169, Body.n169_ntmps ρ
  go_wp2
  go_region_o
  all_goals (go_wp2; go_ret; exact ⟨rfl, (freeze_out w.drew g s.size).1, (freeze_out w.drew g s.size).2.1, (freeze_out w.drew g s.size).2.2.1, Nat.le_of_eq (freeze_out w.drew g s.size).2.2.2.1.symm, fun x _ hn => (freeze_out w.drew g s.size).2.2.2.2 x (fun e => hn (by simp [e]))⟩)

theorem wrS_ok (L : Lays.n166 P ρ) (X : Builder.Extra P ρ) (c : Callable P (ρ.f 166)) (s : ByteArray) (hz : s.size ≤ 1000000000) : AFB P (ρ.f 166) (ρ.t 72) (ρ.t 5) [.sc (.string s)] s := by
 refine ⟨c, fun w vs old b s0 F hs hb hnb _ _ ha => ?_⟩
 simp only [ArgsRep] at ha
 obtain ⟨v, r, F0, rfl, h1, h2, _, rfl⟩ := ha
 have hv : v = .string s := by
  simp only [Rep] at h1
  obtain ⟨_, hc, _⟩ := h1
  cases v <;> simp_all [Value.cells, D.fits, Value.oneCell']
 subst hv
 refine (wrS_run L X b s0 s F w hs hb hnb).mono ?_
 rintro e w' ⟨rfl, h⟩
 exact ⟨⟨_, rfl⟩, h⟩
theorem bdS_ok (L : Lays.n169 P ρ) (X : Builder.Extra P ρ) (c : Callable P (ρ.f 169)) : AFS P (ρ.f 169) (ρ.t 72) (ρ.t 5) :=
 ⟨c, fun w b s F hb hnb => bdS_run L X b s F w hb hnb⟩
end Go.Ax
