/- Contracts of functions of the seat, proved over the engine. No condition. -/
import Derived.Test.YtjnghfepojipiaaX88
import Derived.Sort.Grow
set_option linter.unusedSimpArgs false
set_option linter.unusedVariables false
set_option linter.unnecessarySimpa false
namespace Go.Ax
open Go.Sort
variable {P : Program}

theorem repL_ints {h : Heap} : ∀ {l : List Int} {G : List Nat} {cs : List Value}, RepL h (l.map eI) G cs → cs = l.map (Value.int .i64) ∧ G = []
 | [], G, cs, hr => by
  simp only [List.map_nil, RepL] at hr
  exact ⟨hr.2, hr.1⟩
 | x :: l, G, cs, hr => by
  simp only [List.map_cons, RepL] at hr
  obtain ⟨F, F', c1, c2, rfl, rfl, h1, h2⟩ := hr
  obtain ⟨rfl, rfl⟩ := repL_ints h2
  simp only [eI, Rep] at h1
  obtain ⟨rfl, rfl, _⟩ := h1
  exact ⟨rfl, rfl⟩
theorem ints_repL {h : Heap} : ∀ {l : List Int}, RepL h (l.map eI) [] (l.map (Value.int .i64))
 | [] => by simp [RepL]
 | x :: l => by
  simp only [List.map_cons, RepL]
  exact ⟨[], [], [.int .i64 x], l.map (Value.int .i64), rfl, rfl, by simp [eI, Rep, Value.oneCell'], ints_repL⟩
theorem putCells_row {c : Array Value} {l d : List Int} {rest : List Value} (hc : c.toList = l.map (Value.int .i64) ++ rest) (hd : d.length = l.length) :
  (putCells (Value.int .i64) 0 d.toArray c).toList = d.map (Value.int .i64) ++ rest := by
 apply List.ext_getElem?
 intro k
 simp only [putCells, Array.toList_mapIdx, List.getElem?_mapIdx, hc, Nat.zero_le, true_and, Nat.zero_add, List.size_toArray, Nat.sub_zero, hd]
 by_cases hk : k < l.length
 ·rw [List.getElem?_append_left (by simpa using hk), List.getElem?_append_left (by simpa [hd] using hk)]
  have hk2 : k < d.length := by omega
  simp [hk, hk2]
 ·rw [List.getElem?_append_right (by simp; omega), List.getElem?_append_right (by simp; omega)]
  simp [hk, hd]

theorem sortI_ok {f : Nat} (c : Callable P f) (h : ∀ (blk cap : Nat) (zs : List Int) (w : World), Holds (Value.int .i64) w blk 0 zs.toArray → blk < w.heap.size → zs.length < 4611686018427387904 →
  Calls P f #[.slice (some ⟨blk, 0, none⟩) zs.length cap] w fun e w' => e = .returned (.tuple #[]) ∧ ∃ n os, w' = grow (putRow (Value.int .i64) (Go.Sort.ahead w n) blk 0 (zs.mergeSort fun x y => decide (x ≤ y)).toArray) os) : K_sortI P f := by
 intro l hl
 refine ⟨c, by simp, fun w vs old g hW ha => ?_⟩
 have hm : ((3000000000, U.ar true none 1 (l.map eI)) : Nat × U) ∈ wids 0 [.ar true none 1 (l.map eI)] := by simp [wids]
 have hU := hW.each _ hm
 have hB := hW.blk _ hm rfl
 simp only [UOk] at hU
 obtain ⟨u1, u2, hU⟩ := hU
 rcases hU with ⟨hb, _⟩ | ⟨b, cc, e, G, cs, rest, q1, q2, q3, q4, q5, q6, q7, q8⟩
 ·exact absurd hb hB
 obtain ⟨rfl, rfl⟩ := repL_ints q6
 simp only [if_true] at q8
 simp only [VRepL] at ha
 obtain ⟨v, r, rfl, hv, rfl⟩ := ha
 simp only [VRep] at hv
 obtain ⟨ow, nn, sz, es, k1, k2, k3⟩ := hv
 simp only [wids, List.mem_singleton, Prod.mk.injEq, U.ar.injEq, Nat.add_zero, true_and] at k1
 obtain ⟨rfl, rfl, rfl, rfl⟩ := k1
 have k3' : ∃ b2, g.β 3000000000 = some b2 ∧ v = .slice (some ⟨b2, 0 * 1, none⟩) l.length (g.cap 3000000000 - 0) := by
  rcases k3 with k | ⟨k, _⟩
  ·exact k
  ·rw [q1] at k; cases k
 obtain ⟨b2, k4, rfl⟩ := k3'
 have hbb : b2 = b := by rw [q1] at k4; exact (Option.some.inj k4).symm
 subst hbb
 have hlt : b2 < w.heap.size := (Array.getElem?_eq_some_iff.1 q2).1
 have hH : Holds (Value.int .i64) w b2 0 l.toArray := by
  intro j hj
  have hj : j < l.length := by simpa using hj
  refine ⟨?_, by simp [World.frozen?, q2]⟩
  have hcell : cc[j]? = some (Value.int .i64 l[j]) := by
   rw [← Array.getElem?_toList, q3, List.getElem?_append_left (by simpa using hj)]
   simp [hj]
  simp [World.cell?, q2, hcell, hj]
 have hfp : ∀ es' : List D, fp g (wids 0 [.ar true none 1 es']) = [b2] := by intro es'; simp [fp, wids, q8]
 have hsl := srt_len (l := l)
 refine (h b2 (g.cap 3000000000 - 0) l w hH hlt (by omega)).mono ?_
 rintro e' w' ⟨rfl, n, os, rfl⟩
 have hsz : (grow (putRow (Value.int .i64) (Go.Sort.ahead w n) b2 0 (srt l).toArray) os).heap.size = w.heap.size + os.size := by
  simp [grow]
 have hold : ∀ x, x < w.heap.size → x ≠ b2 → (grow (putRow (Value.int .i64) (Go.Sort.ahead w n) b2 0 (srt l).toArray) os).heap[x]? = w.heap[x]? := by
  intro x hx hn
  simp only [grow, putRow, mapBlock]
  rw [Array.getElem?_append_left (by simpa using hx), Array.getElem?_modify, if_neg (fun e => hn e.symm)]
  rfl
 have hnew : (grow (putRow (Value.int .i64) (Go.Sort.ahead w n) b2 0 (srt l).toArray) os).heap[b2]? = some (.cells (putCells (Value.int .i64) 0 (srt l).toArray cc) e (0, 0)) := by
  simp only [grow, putRow, mapBlock]
  have q2' : (Go.Sort.ahead w n).heap[b2]? = some (.cells cc e (0, 0)) := q2
  rw [Array.getElem?_append_left (by simpa using hlt), Array.getElem?_modify, if_pos rfl, q2']
  rfl
 show ∃ v F g', _
 refine ⟨.tuple #[], [], g, rfl, rfl, rfl, rfl, by rw [show (fun x y => decide (x ≤ y)) = (fun (x y : Int) => decide (x ≤ y)) from rfl]; exact Nat.le_trans (Nat.le_add_right _ _) (Nat.le_of_eq hsz.symm), ?_, ?_, ?_⟩
 ·intro x hx hn
  rw [hfp] at hn
  exact hold x hx (by simpa using hn)
 ·refine ⟨?_, fun x _ => ⟨rfl, rfl⟩, ?_, ?_, ?_⟩
  ·intro x hx
   simp only [wids, List.mem_singleton, Nat.add_zero] at hx
   subst hx
   simp only [UOk]
   refine ⟨by simpa [hsl] using u1, sz_Ii, .inr ⟨b2, _, e, [], (srt l).map (Value.int .i64), rest, q1, hnew, putCells_row q3 hsl, ?_, by simpa [hsl] using q5, ints_repL, by simp, by simp [q8]⟩⟩
   simpa [putCells] using q4
  ·rw [hfp]; simp
  ·intro x hx
   rw [hfp] at hx
   simp only [List.nil_append, List.mem_singleton] at hx
   subst hx
   refine ⟨Nat.lt_of_lt_of_le (show _ < w.heap.size + os.size by omega) (Nat.le_of_eq hsz.symm), ⟨_, _, hnew⟩, fun _ => by rw [hfp]; simp, fun hs => ?_⟩
   have := (hW.sh _ hs).2.2
   rw [hfp] at this
   simp at this
  ·intro x hx
   have := hW.sh x hx
   exact ⟨Nat.lt_of_lt_of_le (show _ < w.heap.size + os.size by omega) (Nat.le_of_eq hsz.symm), fun _ => .inl this.2.1⟩
 ·simp [RetRep, RetRepL]
end Go.Ax
