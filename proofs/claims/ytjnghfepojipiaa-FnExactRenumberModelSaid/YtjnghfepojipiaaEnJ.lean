/- THE ENGINE, PART 10: a generator of conditions over the register code, and its soundness. No condition. -/
import Derived.Test.YtjnghfepojipiaaEnI
import Derived.ProofKit
set_option linter.unusedSimpArgs false
set_option linter.unusedVariables false
set_option linter.unnecessarySimpa false
namespace Go.Ax
open Go.ChangeShapes Go.WideShapes Go.RowKit

section
variable {P : Program}

def Rd (P : Program) (n : Nat) (t : TypeId) {α : Type} (f : α → D) (ok : α → Prop) : Prop :=
 ∀ (H : Type) (enc : TypeId × Value → H) (w : World) (cs : List Value) (x : DataW H × List MemPlace),
  DataW.trod enc P w 0 (fun _ => true) true n t cs = some x → ∃ a F, Rep w.heap (f a) F cs ∧ ok a

theorem rd_zero {t : TypeId} {α : Type} {f : α → D} {ok : α → Prop} : Rd P 0 t f ok := by
 intro H enc w cs x h
 simp [DataW.trod] at h

theorem rd_map {n : Nat} {t : TypeId} {α β : Type} {f : α → D} {ok : α → Prop} {f' : β → D} {ok' : β → Prop} (g : α → β) (h1 : ∀ a, f' (g a) = f a) (h2 : ∀ a, ok a → ok' (g a)) (h : Rd P n t f ok) : Rd P n t f' ok' := by
 intro H enc w cs x hx
 obtain ⟨a, F, r, o⟩ := h _ enc w cs x hx
 exact ⟨g a, F, by rw [h1]; exact r, h2 a o⟩

theorem rd_int {n : Nat} {t : TypeId} {k : IntKind} (ht : P.underlying t = some (.int k)) : Rd P n t (fun m : Int => .sc (.int k m)) (fun m => (Lit.int k m).wf = true) := by
 intro H enc w cs x h
 obtain ⟨m, rfl, _, hw⟩ := DataW.trod_int ht h
 exact ⟨m, [], by simp [Rep, Value.oneCell'], hw⟩

theorem rd_bool {n : Nat} {t : TypeId} (ht : P.underlying t = some .bool) : Rd P n t (fun b : Bool => .sc (.bool b)) (fun _ => True) := by
 intro H enc w cs x h
 obtain ⟨b, rfl, _⟩ := DataW.trod_bool ht h
 exact ⟨b, [], by simp [Rep, Value.oneCell'], trivial⟩

theorem add_block (a : Addr) (i : Nat) : (a.add i).block = a.block := by
 unfold Addr.add
 split <;> rfl

theorem add_off (a : Addr) (i : Nat) : (a.add i).off = a.off + i := by
 unfold Addr.add
 split <;> simp_all

theorem cells_at {w : World} {a : Addr} {n : Nat} {cs : List Value} (h : w.cells? 0 a n = some cs) (hn : 0 < n) :
  ∃ c e fr, w.heap[a.block]? = some (.cells c e fr) ∧ a.spot = none ∧ a.off + n ≤ c.size ∧ cs = (c.toList.drop a.off).take n := by
 unfold World.cells? at h
 rw [if_pos (Nat.zero_le _)] at h
 have hl : cs.length = n := by simpa using mapM_len h
 have hg : ∀ i, i < n → w.cell? (a.add i) = cs[i]? := by
  intro i hi
  obtain ⟨b, h1, h2⟩ := mapM_get h i i (by simp [hi])
  rw [h1, h2]
 have h0 := hg 0 hn
 rw [List.getElem?_eq_getElem (by omega)] at h0
 cases hb : w.heap[a.block]? with
 | none => simp [World.cell?, add_block, hb] at h0
 | some o =>
  cases o with
  | cells c e fr =>
   have hsp : a.spot = none := by
    cases hs : a.spot with
    | none => rfl
    | some s => simp [World.cell?, Addr.add, hb, hs] at h0
   have hc : ∀ i, i < n → c[a.off + i]? = cs[i]? := by
    intro i hi
    have := hg i hi
    have hs2 : (a.add i).spot.isSome = false := by
     cases hs2 : (a.add i).spot.isSome with
     | false => rfl
     | true =>
      rw [List.getElem?_eq_getElem (by omega)] at this
      simp [World.cell?, add_block, hb, hs2] at this
    simpa [World.cell?, add_block, add_off, hb, hs2] using this
   have hlast := hc (n - 1) (by omega)
   rw [List.getElem?_eq_getElem (by omega)] at hlast
   have hle := (Array.getElem?_eq_some_iff.1 hlast).1
   refine ⟨c, e, fr, rfl, hsp, by omega, ?_⟩
   apply List.ext_getElem?
   intro i
   by_cases hi : i < n
   ·rw [← hc i hi, List.getElem?_take_of_lt hi, List.getElem?_drop, Array.getElem?_toList]
   ·rw [List.getElem?_eq_none (by omega), List.getElem?_eq_none (by simp; omega)]
  | _ => simp [World.cell?, add_block, hb] at h0

theorem repL_rows {h : Heap} {α : Type} {f : α → D} {ok : α → Prop} {c : List Value} {sz : Nat} :
  ∀ (m o : Nat), (∀ i, i < m → ∃ a F, Rep h (f a) F ((c.drop (o + i * sz)).take sz) ∧ ok a) →
   ∃ (as : List α) (F : List Nat), as.length = m ∧ RepL h (as.map f) F ((c.drop o).take (m * sz)) ∧ ∀ a ∈ as, ok a
 | 0, o, _ => ⟨[], [], rfl, by simp [RepL], by simp⟩
 | m + 1, o, hr => by
  obtain ⟨a, F, h1, h2⟩ := hr 0 (by omega)
  obtain ⟨as, F', h3, h4, h5⟩ := repL_rows m (o + sz) fun i hi => by
   have := hr (i + 1) (by omega)
   rw [show o + (i + 1) * sz = o + sz + i * sz by rw [Nat.add_mul]; omega] at this
   exact this
  refine ⟨a :: as, F ++ F', by simp [h3], ?_, by simp; exact ⟨h2, h5⟩⟩
  simp only [List.map_cons, RepL]
  refine ⟨F, F', _, _, rfl, ?_, by simpa using h1, h4⟩
  rw [show (m + 1) * sz = sz + m * sz by rw [Nat.add_mul]; omega, List.take_add, List.drop_drop]

theorem rd_slice {n : Nat} {t e : TypeId} {sz : Nat} {α : Type} {f : α → D} {ok : α → Prop} (ht : P.underlying t = some (.slice e)) (hs : P.cellsOf e = sz) (h0 : 0 < sz) (hf : ∀ a, (f a).size = sz)
  (h : Rd P n e f ok) : Rd P (n + 1) t (eS sz f) (fun s => ((s.1 = some true → s.2 = []) ∧ s.1.isSome = true) ∧ s.2.length ≤ maxEl ∧ ∀ a ∈ s.2, ok a) := by
 intro H enc w cs x hx
 rcases DataW.trod_slice ht hx with ⟨rfl, rfl⟩ | ⟨a, len, cap, elems, rest, m, hm, rfl, rfl, hb, hlc, hcm, hlen, hel, hre, _⟩
 ·refine ⟨(some true, []), [], ?_, by simp, by simp [maxEl], by simp⟩
  simp only [Rep, eS]
  exact .inl ⟨none, by simp⟩
 ·obtain rfl : n = m := by omega
  obtain ⟨hrl, hre⟩ := hre rfl
  by_cases hc0 : cap = 0
  ·subst hc0
   obtain rfl : len = 0 := by omega
   refine ⟨(some false, []), [], ?_, by simp, by simp [maxEl], by simp⟩
   simp only [Rep, eS]
   exact .inl ⟨some a, by simp⟩
  ·have hany : ∀ j, j < cap → ∃ c, w.cells? 0 (a.add (j * sz)) sz = some c ∧ ∃ y, DataW.trod enc P w 0 (fun _ => true) true n e c = some y := by
    intro j hj
    rw [hs] at hel hre
    by_cases hjl : j < len
    ·have := hel j hjl
     rw [List.getElem?_eq_getElem (by omega), Option.bind_eq_some_iff] at this
     obtain ⟨c, h1, h2⟩ := this
     exact ⟨c, h1, _, h2⟩
    ·have := hre (j - len) (by omega)
     rw [List.getElem?_eq_getElem (by omega), Option.bind_eq_some_iff, show len + (j - len) = j by omega] at this
     obtain ⟨c, h1, h2⟩ := this
     exact ⟨c, h1, _, h2⟩
   obtain ⟨c1, hc1, _⟩ := hany (cap - 1) (by omega)
   obtain ⟨c, e', fr, hbk, _, hsz, _⟩ := cells_at hc1 h0
   obtain ⟨c2, hc2, _⟩ := hany 0 (by omega)
   obtain ⟨_, _, _, _, hsp, _, _⟩ := cells_at hc2 h0
   simp only [Nat.zero_mul, show ∀ a : Addr, a.add 0 = a from fun a => by simp [Addr.add]] at hsp
   simp only [add_block, add_off] at hbk hsz
   have hall : a.off + cap * sz ≤ c.size := by
    have : cap * sz = (cap - 1) * sz + sz := by
     conv => lhs; rw [show cap = cap - 1 + 1 by omega, Nat.add_mul, Nat.one_mul]
    omega
   obtain ⟨as, F, q1, q2, q3⟩ := repL_rows (h := w.heap) (f := f) (ok := ok) (c := c.toList) (sz := sz) len a.off fun i hi => by
    obtain ⟨ci, hci, y, hy⟩ := hany i (by omega)
    obtain ⟨c', e'', fr', hbk', _, _, hcs⟩ := cells_at hci h0
    simp only [add_block, add_off] at hbk' hcs
    rw [hbk] at hbk'
    cases hbk'
    obtain ⟨z, F, r1, r2⟩ := h _ enc w ci y hy
    exact ⟨z, F, by rw [← hcs]; exact r1, r2⟩
   refine ⟨(some false, as), a.block :: F, ?_, by simp, by simp [q1]; exact Nat.le_trans (Nat.le_trans hlc hcm) (by decide), q3⟩
   simp only [Rep, eS]
   refine .inr ⟨a.block, a.off, cap, c, e', fr, F, ?_, rfl, by simp, by simp [q1, hlc], by simp [q1]; exact Nat.le_trans (Nat.le_trans hlc hcm) (by decide), hbk, hall, ?_, by simpa [q1] using q2⟩
   ·rw [List.length_map, q1]
    congr 3
    cases a
    simp_all
   ·intro d hd
    obtain ⟨z, _, rfl⟩ := List.mem_map.1 hd
    exact hf z

def RdF (P : Program) (n : Nat) (fs : List Field) (off : Nat) {α : Type} (f : α → List D) (ok : α → Prop) : Prop :=
 ∀ (H : Type) (enc : TypeId × Value → H) (w : World) (cs : List Value), cs.length = off + ((fs.map fun g => P.cellsOf g.type).foldr (· + ·) 0) →
  (∀ g ∈ fs, ∃ x : DataW H × List MemPlace, DataW.trod enc P w 0 (fun _ => true) true n g.type ((cs.drop g.offset).take (P.cellsOf g.type)) = some x) →
  ∃ a F, RepL w.heap (f a) F (cs.drop off) ∧ ok a

theorem rdf_cell {n : Nat} {g : Field} {fs : List Field} {off k : Nat} {α β : Type} {f : α → D} {ok : α → Prop} {f' : β → List D} {ok' : β → Prop} (ho : g.offset = off) (hk : P.cellsOf g.type = k)
  (h : Rd P n g.type f ok) (h' : RdF P n fs (off + k) f' ok') : RdF P n (g :: fs) off (fun p : α × β => f p.1 :: f' p.2) (fun p => ok p.1 ∧ ok' p.2) := by
 intro H enc w cs hl hx
 subst ho hk
 obtain ⟨x, hx0⟩ := hx g (by simp)
 obtain ⟨a, F, r, o⟩ := h _ enc w _ x hx0
 obtain ⟨b, F', r', o'⟩ := h' _ enc w cs (by simp only [List.map_cons, List.foldr_cons] at hl; omega) fun g' hg' => hx g' (by simp [hg'])
 refine ⟨(a, b), F ++ F', ?_, o, o'⟩
 simp only [RepL]
 exact ⟨F, F', _, _, rfl, by rw [← List.drop_drop, List.take_append_drop], r, r'⟩

theorem rdf_cell1 {n : Nat} {g : Field} {off : Nat} {α : Type} {f : α → D} {ok : α → Prop} (ho : g.offset = off)
  (h : Rd P n g.type f ok) : RdF P n [g] off (fun p : α => [f p]) ok := by
 intro H enc w cs hl hx
 subst ho
 obtain ⟨x, hx0⟩ := hx g (by simp)
 obtain ⟨a, F, r, o⟩ := h _ enc w _ x hx0
 refine ⟨a, F, ?_, o⟩
 simp only [RepL]
 refine ⟨F, [], _, [], by simp, ?_, r, rfl, rfl⟩
 simp only [List.map_cons, List.map_nil, List.foldr_cons, List.foldr_nil] at hl
 rw [List.append_nil, List.take_of_length_le (by simp; omega)]

theorem rdf_ag {n : Nat} {g : Field} {fs : List Field} {off k : Nat} {α β : Type} {f : α → List D} {ok : α → Prop} {f' : β → List D} {ok' : β → Prop} (ho : g.offset = off) (hk : P.cellsOf g.type = k)
  (h : Rd P n g.type (fun a => .ag (f a)) ok) (h' : RdF P n fs (off + k) f' ok') : RdF P n (g :: fs) off (fun p : α × β => f p.1 ++ f' p.2) (fun p => ok p.1 ∧ ok' p.2) := by
 intro H enc w cs hl hx
 subst ho hk
 obtain ⟨x, hx0⟩ := hx g (by simp)
 obtain ⟨a, F, r, o⟩ := h _ enc w _ x hx0
 obtain ⟨b, F', r', o'⟩ := h' _ enc w cs (by simp only [List.map_cons, List.foldr_cons] at hl; omega) fun g' hg' => hx g' (by simp [hg'])
 refine ⟨(a, b), F ++ F', ?_, o, o'⟩
 simp only [Rep] at r
 rw [← List.take_append_drop (P.cellsOf g.type) (cs.drop g.offset), List.drop_drop]
 exact RepL.append r.2 r'

theorem rd_struct {n : Nat} {t : TypeId} {fs : Array Field} {α : Type} {f : α → List D} {ok : α → Prop} (ht : P.underlying t = some (.struct fs)) (hc : P.cellsOf t = (fs.toList.map fun g => P.cellsOf g.type).foldr (· + ·) 0)
  (hf : ∀ a, ∀ d ∈ f a, d.size = 1 ∧ d.isAg = false) (h : RdF P n fs.toList 0 f ok) : Rd P (n + 1) t (fun a => .ag (f a)) ok := by
 intro H enc w cs x hx
 obtain ⟨xs, m, hm, rfl, hl, hxl, hg⟩ := DataW.trod_struct ht hx
 obtain rfl : n = m := by omega
 obtain ⟨a, F, r, o⟩ := h _ enc w cs (by omega) fun g hgm => by
  obtain ⟨i, hi, rfl⟩ := List.getElem_of_mem hgm
  have hi' : i < fs.size := by simpa using hi
  have := hg i fs[i] (by simp [hi'])
  rw [List.getElem?_eq_getElem (by omega)] at this
  exact ⟨_, by simpa using this⟩
 refine ⟨a, F, ?_, o⟩
 simp only [Rep]
 exact ⟨hf a, by simpa using r⟩

def Arg (P : Program) (t : TypeId) {α : Type} (f : α → D) (ok : α → Prop) : Prop :=
 (∀ n, Rd P n t f ok) ∧ (((∀ a, (f a).isAg = true) ∧ ∃ fs, P.underlying t = some (.struct fs)) ∨
  ((∀ a, (f a).isAg = false) ∧ (match P.underlying t with | some (.struct _) | some (.array _ _) => false | _ => true) = true))

theorem rep_one {h : Heap} {d : D} {F : List Nat} {cs : List Value} (hr : Rep h d F cs) (hd : d.isAg = false) : ∃ c, cs = [c] ∧ c.oneCell' = true := by
 cases d with
 | sc v => simp only [Rep] at hr; exact ⟨v, hr.2.1, hr.2.2⟩
 | ag ds => simp [D.isAg] at hd
 | ls nn sz ds =>
  simp only [Rep] at hr
  rcases hr with ⟨p, rfl, _⟩ | ⟨b, off, cap, c, e, fr, F', rfl, _⟩
  ·exact ⟨_, rfl, rfl⟩
  ·exact ⟨_, rfl, rfl⟩
 | pt d j =>
  simp only [Rep] at hr
  obtain ⟨b, off, c, e, fr, F', rfl, _⟩ := hr
  exact ⟨_, rfl, rfl⟩
 | jk => simp only [Rep] at hr; obtain ⟨_, v, rfl, hv⟩ := hr; exact ⟨v, rfl, hv⟩
 | fn f ds => simp only [Rep] at hr; obtain ⟨vs, rfl, _⟩ := hr; exact ⟨_, rfl, rfl⟩

theorem arg_of {t : TypeId} {α : Type} {f : α → D} {ok : α → Prop} (ha : Arg P t f ok) {H : Type} {enc : TypeId × Value → H} {w : World} {b : Nat} {v : Value} {d : DataW H} {ps : List MemPlace}
  (ho : Value.okWide P w .any b t v) (h : DataW.Trod enc P w 0 (fun _ => true) true t v d ps) : ∃ a F, Rep w.heap (f a) F v.cells.toList ∧ (f a).fits v ∧ ok a := by
 obtain ⟨n, hn⟩ := h
 obtain ⟨a, F, r, o⟩ := ha.1 n _ enc w _ _ hn
 refine ⟨a, F, r, ?_, o⟩
 rcases ha.2 with ⟨h1, fs, hs⟩ | ⟨h1, h2⟩
 ·simp only [Value.okWide, hs] at ho
  obtain ⟨cs, rfl, _⟩ := ho
  have h1 := h1 a
  cases hd : f a with
  | ag ds => exact ⟨_, rfl⟩
  | _ => simp [hd, D.isAg] at h1
 ·have h1 := h1 a
  obtain ⟨c, hc, hc1⟩ := rep_one r h1
  have hv : v.oneCell' = true := by
   cases v with
   | agg cs =>
    exfalso
    cases hu : P.underlying t with
    | none => simp [Value.okWide, hu, Cell.okWide, Cell.ok] at ho
    | some u => cases u <;> simp_all [Value.okWide, Cell.okWide, Cell.ok]
   | _ => simp_all [Value.cells]
  cases hd : f a with
  | ag ds => simp [hd, D.isAg] at h1
  | _ => exact hv

theorem args_two {t t' : TypeId} {α β : Type} {f : α → D} {ok : α → Prop} {f' : β → D} {ok' : β → Prop} (ha : Arg P t f ok) (ha' : Arg P t' f' ok') {H : Type} {enc : TypeId × Value → H} {w : World} {b : Nat} {args : Array Value} {ds : List (DataW H)} {ps : List MemPlace}
  (ho : ∀ (j : Nat) u v, [t, t'][j]? = some u → args[j]? = some v → Value.okWide P w .any b u v) (h : DataW.TrodAll enc P w 0 (fun _ => true) true [t, t'] args.toList ds ps) :
  ∃ a a', ArgsRep w.heap (fun _ => True) [f a, f' a'] args.toList ∧ ok a ∧ ok' a' := by
 obtain ⟨v, v', d, d', p, p', rfl, rfl, rfl, h1, h2⟩ := trodAll_two h
 obtain ⟨a, F, r, q, o⟩ := arg_of ha (ho 0 t v rfl rfl) h1
 obtain ⟨a', F', r', q', o'⟩ := arg_of ha' (ho 1 t' v' rfl rfl) h2
 exact ⟨a, a', by simp only [ArgsRep]; exact ⟨v, _, F, rfl, r, q, fun _ _ => trivial, v', _, F', rfl, r', q', fun _ _ => trivial, rfl⟩, o, o'⟩

theorem trodAll_below {H : Type} {enc : TypeId × Value → H} (hl : laidOutB P = true) {W W' : World} (hb : Below W.heap.size W W') {sp : Nat → Bool} :
  ∀ {ts : List TypeId} {vs : List Value} {ds : List (DataW H)} {ps : List MemPlace}, (∀ t ∈ ts, P.readableRec t = true ∧ t < P.types.size) → (∀ x ∈ ps, x.block < W.heap.size) → (∀ x ∈ ps, sp x.block = true) →
   DataW.TrodAll enc P W 0 (fun _ => true) true ts vs ds ps → DataW.TrodAll enc P W' 0 sp true ts vs ds ps
 | [], _, _, _, _, _, _, h => by
  obtain ⟨rfl, rfl, rfl⟩ := trodAll_nil h
  rfl
 | t :: ts, _, _, _, ht, hlt, hs, h => by
  obtain ⟨v, vs, d, ds, p, q, rfl, rfl, rfl, h1, h2⟩ := trodAll_cons h
  exact ⟨p, q, WideElems.Trod_stays hl (ht t (by simp)).1 (ht t (by simp)).2 h1 (fun x hx => hb.same (hlt x (by simp [hx]))) (fun x hx => hs x (by simp [hx])),
   trodAll_below hl hb (fun t' h' => ht t' (by simp [h'])) (fun x hx => hlt x (by simp [hx])) (fun x hx => hs x (by simp [hx])) h2, rfl⟩

theorem post_true {f : Func} {s : ChangeSpec} {H : Type} {enc : TypeId × Value → H} {t : TypeId} {W W' : World} {args : Array Value} {ds gs : List (DataW H)} {before : List MemPlace}
  (hl : laidOutB P = true) (hvars : s.vars = []) (hres : f.resultTypes = #[t]) (ht : P.underlying t = some .bool) (hp : ∀ t ∈ f.params.toList, P.readableRec t = true ∧ t < P.types.size)
  (hs : (s.fn H (ds ++ gs)).results = [.lit (.bool true)] ∧ (s.fn H (ds ++ gs)).args = ds ∧ (s.fn H (ds ++ gs)).vars = [])
  (hW : DataW.Whole enc P f.params.toList s.vars false W args.toList ds gs before) (hb : Below W.heap.size W W') :
  s.post enc P f false true false false W args (.bool true) W' := by
 have hlt := hW.lt
 obtain ⟨p, q, h1, h2, rfl, h3, h4⟩ := id hW
 rw [hvars] at h2
 obtain ⟨rfl, rfl⟩ := trodVars_none h2
 simp only [List.append_nil] at hlt
 refine ⟨ds, [], p ++ [], [], p, [], hW, ?_, ?_, ?_, World.keptBut_mono (fun x hx => ⟨hx, .inr (.inl (by simpa using hx))⟩) (hb.frame (· ∈ p ++ [])), fun h => by cases h⟩
 ·rw [hs.1, hres]
  refine trodAll_mk1 ?_
  exact ⟨1, by simp [Value.cells, DataW.trod, ht]⟩
 ·rw [hs.2.1]
  exact trodAll_below hl hb hp hlt (fun x hx => by simpa using hlt x hx) h1
 ·rw [hs.2.2, hvars]
  rfl

theorem lifted_true {C : Checked} {os : Os} {f : FuncId} {fn : Func} {s : ChangeSpec} {H : Type} {enc : TypeId × Value → H} {t : TypeId}
  (own : ownKnob C.prog.godebug = none) (started : os.Started) (noInit : C.prog.inits.idxOf? f = none) (hfn : C.prog.funcs[f]? = some fn)
  (hl : laidOutB C.prog = true) (hvars : s.vars = []) (hres : fn.resultTypes = #[t]) (ht : C.prog.underlying t = some .bool) (hp : ∀ t ∈ fn.params.toList, C.prog.readableRec t = true ∧ t < C.prog.types.size)
  (hs : ∀ ds : List (DataW H), ds.length = fn.params.size → (s.fn H ds).results = [.lit (.bool true)] ∧ (s.fn H ds).args = ds ∧ (s.fn H ds).vars = [])
  (witness : ∃ (w : World) (tape : Tape) (i : Input), w.os = os ∧ (w.forCall tape i).Shaped C.prog ∧ i.vars = [] ∧ Input.okWide C.prog (w.forCall tape i) .any w.heap.size f i ∧
   s.pre6 enc C.prog fn [] false (w.forCall tape i).memory i.args ∧ ({} : Assume).holds C.prog (lone (Frame.enter C.prog f i.args .normal) [] (w.forCall tape i)))
  (h : ∀ (W : World) (b : Nat) (args : Array Value) (ds : List (DataW H)) (ps : List MemPlace), (∀ (j : Nat) u v, fn.params.toList[j]? = some u → args[j]? = some v → Value.okWide C.prog W .any b u v) →
   DataW.TrodAll enc C.prog W 0 (fun _ => true) true fn.params.toList args.toList ds ps → ∃ DS, AF C.prog f DS (.own (eB true)) ∧ ArgsRep W.heap (fun _ => True) DS args.toList) :
  ReturnsInHanded {} C os f .any (s.pre6 enc C.prog fn [] false) (s.post enc C.prog fn false true false false) := by
 refine returnsInHanded_of_change own started noInit hfn witness ?_
 intro W base args ds gs before hval hW _ _
 obtain ⟨p, q, hA, hV, _, _, _⟩ := id hW
 rw [hvars] at hV
 obtain ⟨rfl, rfl⟩ := trodVars_none hV
 obtain ⟨DS, hAF, hR⟩ := h W base args ds p (fun j u v h1 h2 => hval j u v (by simpa using h1) h2) hA
 have hlen : ds.length = fn.params.size := by
  have : ∀ {ts : List TypeId} {vs : List Value} {ds : List (DataW H)} {ps : List MemPlace}, DataW.TrodAll enc C.prog W 0 (fun _ => true) true ts vs ds ps → ds.length = ts.length := by
   intro ts
   induction ts with
   | nil => intro vs ds ps h; obtain ⟨rfl, rfl, rfl⟩ := trodAll_nil h; rfl
   | cons t ts ih =>
    intro vs ds ps h
    obtain ⟨v, vs, d, ds, p, q, rfl, rfl, rfl, h1, h2⟩ := trodAll_cons h
    simp [ih h2]
  simpa using this hA
 have := hAF.2 W args.toList (fun _ => True) hR
 rw [show args.toList.toArray = args from by simp] at this
 refine this.mono ?_
 rintro e W' ⟨v, F, G, rfl, hb, hr, _⟩
 simp only [RetRep, Rep, eB] at hr
 obtain ⟨_, ⟨_, hc, _⟩, hf⟩ := hr
 have hv : v = .bool true := by
  cases v <;> simp_all [Value.cells, D.fits, Value.oneCell']
 subst hv
 exact ⟨_, rfl, post_true hl hvars hres ht hp (by simpa using hs ds hlen) hW hb⟩

end
end Go.Ax
attribute [go_sem] decide_true decide_false and_self true_and and_true false_and and_false not_true_eq_false not_false_eq_true false_implies true_implies implies_true ge_iff_le Bool.false_eq_true List.cons_append List.nil_append
