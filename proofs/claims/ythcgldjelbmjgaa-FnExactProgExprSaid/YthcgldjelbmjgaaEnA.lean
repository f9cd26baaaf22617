/- THE ENGINE, PART 1: a generator of conditions over the register code, and its soundness. No condition. -/
import Derived.WalkKit
set_option linter.unusedSimpArgs false
set_option linter.unusedVariables false
set_option linter.unnecessarySimpa false
namespace Go.Ax

inductive D where
  | sc (v : Value)
  | ag (ds : List D)
  | ls (nn : Option Bool) (sz : Nat) (ds : List D)
  | pt (d : D) (j : Nat)
  | jk
  | fn (f : Nat) (ds : List D)
  deriving Inhabited

mutual
def D.size : D → Nat
  | .sc _ => 1
  | .ag ds => D.sizeL ds
  | .ls _ _ _ => 1
  | .pt _ _ => 1
  | .jk => 1
  | .fn _ _ => 1
def D.sizeL : List D → Nat
  | [] => 0
  | d :: ds => D.size d + D.sizeL ds
end

def D.isAg : D → Bool
  | .ag _ => true
  | _ => false

abbrev Heap := Array Obj

def D.fits : D → Value → Prop
  | .ag _, v => ∃ c, v = .agg c
  | _, v => v.oneCell' = true

def maxEl : Nat := 9223372036854775807

mutual

def Rep (h : Heap) : D → List Nat → List Value → Prop
  | .sc v, F, cs => F = [] ∧ cs = [v] ∧ v.oneCell' = true
  | .ag ds, F, cs => (∀ d ∈ ds, d.size = 1 ∧ d.isAg = false) ∧ RepL h ds F cs
  | .jk, F, cs => F = [] ∧ ∃ v : Value, cs = [v] ∧ v.oneCell' = true
  | .ls nn sz ds, F, cs =>
      (∃ p, cs = [.slice p 0 0] ∧ ds = [] ∧ F = [] ∧ (p = none → nn ≠ some false) ∧ (p.isSome = true → nn ≠ some true)) ∨
      ∃ b off cap c e fr F', cs = [.slice (some ⟨b, off, none⟩) ds.length cap] ∧ F = b :: F' ∧ nn ≠ some true ∧
        ds.length ≤ cap ∧ ds.length ≤ maxEl ∧ h[b]? = some (.cells c e fr) ∧ off + cap * sz ≤ c.size ∧ (∀ d ∈ ds, d.size = sz) ∧
        RepL h ds F' ((c.toList.drop off).take (ds.length * sz))
  | .pt d j, F, cs => ∃ b off c e fr F', cs = [.pointer (some ⟨b, off + j, none⟩)] ∧ F = b :: F' ∧ j < d.size ∧
        h[b]? = some (.cells c e fr) ∧ off + d.size ≤ c.size ∧ Rep h d F' ((c.toList.drop off).take d.size)
  | .fn f ds, F, cs => ∃ vs, cs = [.func (.func f) #[] ⟨vs⟩] ∧ RepV h ds F vs
def RepL (h : Heap) : List D → List Nat → List Value → Prop
  | [], F, cs => F = [] ∧ cs = []
  | d :: ds, F, cs => ∃ F1 F2 c1 c2, F = F1 ++ F2 ∧ cs = c1 ++ c2 ∧ Rep h d F1 c1 ∧ RepL h ds F2 c2

def RepV (h : Heap) : List D → List Nat → List Value → Prop
  | [], F, vs => F = [] ∧ vs = []
  | d :: ds, F, vs => ∃ F1 F2 v r, F = F1 ++ F2 ∧ vs = v :: r ∧ Rep h d F1 v.cells.toList ∧ d.fits v ∧ RepV h ds F2 r
end

theorem RepV_cons {h : Heap} {d ds F vs} : RepV h (d :: ds) F vs ↔ ∃ F1 F2 v r, F = F1 ++ F2 ∧ vs = v :: r ∧ Rep h d F1 v.cells.toList ∧ d.fits v ∧ RepV h ds F2 r := by simp [RepV]
theorem RepL_nil {h : Heap} {F cs} : RepL h [] F cs ↔ F = [] ∧ cs = [] := by simp [RepL]
theorem RepL_cons {h : Heap} {d ds F cs} : RepL h (d :: ds) F cs ↔ ∃ F1 F2 c1 c2, F = F1 ++ F2 ∧ cs = c1 ++ c2 ∧ Rep h d F1 c1 ∧ RepL h ds F2 c2 := by
  simp [RepL]

mutual
theorem Rep.length {h : Heap} : ∀ {d F cs}, Rep h d F cs → cs.length = d.size
  | .sc _, _, _, hr => by simp [Rep] at hr; simp [hr.2.1, D.size]
  | .ag ds, _, _, hr => by simp only [Rep] at hr; simpa [D.size] using RepL.length hr.2
  | .jk, _, _, hr => by simp only [Rep] at hr; obtain ⟨_, v, rfl, _⟩ := hr; simp [D.size]
  | .ls _ _ _, _, _, hr => by
    simp only [Rep] at hr
    rcases hr with ⟨p, rfl, _⟩ | ⟨b, off, cap, c, e, fr, F', rfl, _⟩ <;> simp [D.size]
  | .pt _ _, _, _, hr => by
    simp only [Rep] at hr
    obtain ⟨b, off, c, e, fr, F', rfl, _⟩ := hr
    simp [D.size]
  | .fn _ _, _, _, hr => by
    simp only [Rep] at hr
    obtain ⟨vs, rfl, _⟩ := hr
    simp [D.size]
theorem RepL.length {h : Heap} : ∀ {ds F cs}, RepL h ds F cs → cs.length = D.sizeL ds
  | [], _, _, hr => by simp [RepL] at hr; simp [hr.2, D.sizeL]
  | d :: ds, _, _, hr => by
    simp only [RepL] at hr
    obtain ⟨F1, F2, c1, c2, rfl, rfl, h1, h2⟩ := hr
    simp [D.sizeL, Rep.length h1, RepL.length h2]
end

mutual

theorem Rep.frame {h h' : Heap} : ∀ {d F cs}, Rep h d F cs → (∀ b ∈ F, h'[b]? = h[b]?) → Rep h' d F cs
  | .sc _, _, _, hr, _ => by simpa [Rep] using hr
  | .ag ds, _, _, hr, hf => by simp only [Rep] at hr ⊢; exact ⟨hr.1, RepL.frame hr.2 hf⟩
  | .jk, _, _, hr, _ => by simpa [Rep] using hr
  | .ls _ _ _, _, _, hr, hf => by
    simp only [Rep] at hr ⊢
    rcases hr with hr | ⟨b, off, cap, c, e, fr, F', h1, h2, h3, h4, h5, h6, h7, h8, h9⟩
    · exact .inl hr
    · subst h2
      exact .inr ⟨b, off, cap, c, e, fr, F', h1, rfl, h3, h4, h5, by rw [hf b (by simp)]; exact h6, h7, h8,
        RepL.frame h9 fun x hx => hf x (by simp [hx])⟩
  | .pt _ _, _, _, hr, hf => by
    simp only [Rep] at hr ⊢
    obtain ⟨b, off, c, e, fr, F', h1, h2, h3, h4, h5, h6⟩ := hr
    subst h2
    exact ⟨b, off, c, e, fr, F', h1, rfl, h3, by rw [hf b (by simp)]; exact h4, h5, Rep.frame h6 fun x hx => hf x (by simp [hx])⟩
  | .fn _ ds, _, _, hr, hf => by
    simp only [Rep] at hr ⊢
    obtain ⟨vs, h1, h2⟩ := hr
    exact ⟨vs, h1, RepV.frame h2 hf⟩
theorem RepL.frame {h h' : Heap} : ∀ {ds F cs}, RepL h ds F cs → (∀ b ∈ F, h'[b]? = h[b]?) → RepL h' ds F cs
  | [], _, _, hr, _ => by simpa [RepL] using hr
  | d :: ds, _, _, hr, hf => by
    simp only [RepL] at hr ⊢
    obtain ⟨F1, F2, c1, c2, rfl, rfl, h1, h2⟩ := hr
    exact ⟨F1, F2, c1, c2, rfl, rfl, Rep.frame h1 fun x hx => hf x (by simp [hx]), RepL.frame h2 fun x hx => hf x (by simp [hx])⟩
theorem RepV.frame {h h' : Heap} : ∀ {ds F vs}, RepV h ds F vs → (∀ b ∈ F, h'[b]? = h[b]?) → RepV h' ds F vs
  | [], _, _, hr, _ => by simpa [RepV] using hr
  | d :: ds, _, _, hr, hf => by
    simp only [RepV] at hr ⊢
    obtain ⟨F1, F2, v, r, rfl, rfl, h1, h2, h3⟩ := hr
    exact ⟨F1, F2, v, r, rfl, rfl, Rep.frame h1 fun x hx => hf x (by simp [hx]), h2, RepV.frame h3 fun x hx => hf x (by simp [hx])⟩
end

mutual

theorem Rep.lt {h : Heap} : ∀ {d F cs}, Rep h d F cs → ∀ b ∈ F, b < h.size
  | .sc _, _, _, hr => by simp [Rep] at hr; simp [hr.1]
  | .ag ds, _, _, hr => by simp only [Rep] at hr; exact RepL.lt hr.2
  | .jk, _, _, hr => by simp only [Rep] at hr; simp [hr.1]
  | .ls _ _ _, _, _, hr => by
    simp only [Rep] at hr
    rcases hr with ⟨_, _, _, rfl, _⟩ | ⟨b, off, cap, c, e, fr, F', h1, rfl, h3, h4, h5, h6, h7, h8, h9⟩
    · simp
    · intro x hx
      rcases List.mem_cons.1 hx with rfl | hx
      · exact (Array.getElem?_eq_some_iff.1 h6).1
      · exact RepL.lt h9 x hx
  | .pt _ _, _, _, hr => by
    simp only [Rep] at hr
    obtain ⟨b, off, c, e, fr, F', h1, rfl, h3, h4, h5, h6⟩ := hr
    intro x hx
    rcases List.mem_cons.1 hx with rfl | hx
    · exact (Array.getElem?_eq_some_iff.1 h4).1
    · exact Rep.lt h6 x hx
  | .fn _ ds, _, _, hr => by
    simp only [Rep] at hr
    obtain ⟨vs, h1, h2⟩ := hr
    exact RepV.lt h2
theorem RepL.lt {h : Heap} : ∀ {ds F cs}, RepL h ds F cs → ∀ b ∈ F, b < h.size
  | [], _, _, hr => by simp [RepL] at hr; simp [hr.1]
  | d :: ds, _, _, hr => by
    simp only [RepL] at hr
    obtain ⟨F1, F2, c1, c2, rfl, rfl, h1, h2⟩ := hr
    intro x hx
    rcases List.mem_append.1 hx with hx | hx
    · exact Rep.lt h1 x hx
    · exact RepL.lt h2 x hx
theorem RepV.lt {h : Heap} : ∀ {ds F vs}, RepV h ds F vs → ∀ b ∈ F, b < h.size
  | [], _, _, hr => by simp [RepV] at hr; simp [hr.1]
  | d :: ds, _, _, hr => by
    simp only [RepV] at hr
    obtain ⟨F1, F2, v, r, rfl, rfl, h1, _, h2⟩ := hr
    intro x hx
    rcases List.mem_append.1 hx with hx | hx
    · exact Rep.lt h1 x hx
    · exact RepV.lt h2 x hx
end

theorem RepL.append {h : Heap} {ds' F' cs'} : ∀ {ds F cs}, RepL h ds F cs → RepL h ds' F' cs' → RepL h (ds ++ ds') (F ++ F') (cs ++ cs')
  | [], _, _, hr, h' => by simp [RepL] at hr; simpa [hr] using h'
  | d :: ds, _, _, hr, h' => by
    simp only [RepL] at hr
    obtain ⟨F1, F2, c1, c2, rfl, rfl, h1, h2⟩ := hr
    simp only [List.cons_append, RepL]
    exact ⟨F1, F2 ++ F', c1, c2 ++ cs', by simp, by simp, h1, RepL.append h2 h'⟩

theorem RepL.split {h : Heap} {ds'} : ∀ {ds F cs}, RepL h (ds ++ ds') F cs → ∃ F1 F2 c1 c2, F = F1 ++ F2 ∧ cs = c1 ++ c2 ∧ RepL h ds F1 c1 ∧ RepL h ds' F2 c2
  | [], F, cs, hr => ⟨[], F, [], cs, by simp, by simp, by simp [RepL], by simpa using hr⟩
  | d :: ds, _, _, hr => by
    simp only [List.cons_append, RepL] at hr
    obtain ⟨F1, F2, c1, c2, rfl, rfl, h1, h2⟩ := hr
    obtain ⟨G1, G2, e1, e2, rfl, rfl, g1, g2⟩ := RepL.split h2
    exact ⟨F1 ++ G1, G2, c1 ++ e1, e2, by simp, by simp, by simp only [RepL]; exact ⟨F1, G1, c1, e1, rfl, rfl, h1, g1⟩, g2⟩

theorem RepL.pick {h : Heap} {ds F cs} (hr : RepL h ds F cs) {i : Nat} (hi : i < ds.length) :
    ∃ F1 F2 F3 c1 c2 c3, F = F1 ++ (F2 ++ F3) ∧ cs = c1 ++ (c2 ++ c3) ∧ RepL h (ds.take i) F1 c1 ∧ Rep h ds[i] F2 c2 ∧ RepL h (ds.drop (i + 1)) F3 c3 := by
  have e : ds = ds.take i ++ (ds[i] :: ds.drop (i + 1)) := by
    rw [List.getElem_cons_drop, List.take_append_drop]
  have hr' := hr
  rw [e] at hr'
  obtain ⟨F1, F2, c1, c2, rfl, rfl, h1, h2⟩ := hr'.split
  simp only [RepL] at h2
  obtain ⟨F3, F4, c3, c4, rfl, rfl, h3, h4⟩ := h2
  exact ⟨F1, F3, F4, c1, c3, c4, rfl, rfl, h1, h3, h4⟩

theorem D.sizeL_append (a b : List D) : D.sizeL (a ++ b) = D.sizeL a + D.sizeL b := by
  induction a with
  | nil => simp [D.sizeL]
  | cons x a ih => simp [D.sizeL, ih]; omega

theorem D.sizeL_const {sz : Nat} {ds : List D} (hs : ∀ d ∈ ds, d.size = sz) : D.sizeL ds = ds.length * sz := by
  induction ds with
  | nil => simp [D.sizeL]
  | cons x a ih =>
    have h1 := hs x (by simp)
    have h2 := ih fun d hd => hs d (by simp [hd])
    simp [D.sizeL, h1, h2, Nat.succ_mul]; omega

mutual
theorem Rep.one {h : Heap} : ∀ {d F cs}, Rep h d F cs → ∀ v ∈ cs, v.oneCell' = true
  | .sc _, _, _, hr => by simp only [Rep] at hr; obtain ⟨_, rfl, h1⟩ := hr; simpa using h1
  | .ag ds, _, _, hr => by simp only [Rep] at hr; exact RepL.one hr.2
  | .jk, _, _, hr => by simp only [Rep] at hr; obtain ⟨_, v, rfl, h1⟩ := hr; simpa using h1
  | .ls _ _ _, _, _, hr => by
    simp only [Rep] at hr
    rcases hr with ⟨p, rfl, _⟩ | ⟨b, off, cap, c, e, fr, F', rfl, _⟩ <;> simp [Value.oneCell']
  | .pt _ _, _, _, hr => by
    simp only [Rep] at hr
    obtain ⟨b, off, c, e, fr, F', rfl, _⟩ := hr
    simp [Value.oneCell']
  | .fn _ _, _, _, hr => by
    simp only [Rep] at hr
    obtain ⟨vs, rfl, _⟩ := hr
    simp [Value.oneCell']
theorem RepL.one {h : Heap} : ∀ {ds F cs}, RepL h ds F cs → ∀ v ∈ cs, v.oneCell' = true
  | [], _, _, hr => by simp [RepL] at hr; simp [hr.2]
  | d :: ds, _, _, hr => by
    simp only [RepL] at hr
    obtain ⟨F1, F2, c1, c2, rfl, rfl, h1, h2⟩ := hr
    intro v hv
    rcases List.mem_append.1 hv with hv | hv
    · exact Rep.one h1 v hv
    · exact RepL.one h2 v hv
end

end Go.Ax
namespace Go.Ax
open Go.RowKit (Below)

inductive AV where
  | im (tok : Option Nat) (d : D)
  | tr (k : Nat)
  | pw (id el j : Nat)
  | cw (id el j sz : Nat) (agg : Bool)
  | sm (id off len : Nat)
  | vb (id len : Nat)
  | sg (vs : List AV)
  | tup (vs : List AV)
  | any
  | cl (f : Nat) (vs : List AV)
  | pq (id el j isz el' j' : Nat)
  | qs (id el j isz off len : Nat)
  | ss (id off len : Nat)
  | z0 (nn : Option Bool) (sz : Nat)
  deriving Inhabited

inductive U where
  | own (d : D)
  | ar (ow : Bool) (nn : Option Bool) (sz : Nat) (es : List D)
  | bx (sz : Nat) (items : List AV)
  deriving Inhabited

structure St where
  n : Nat
  env : List (Nat × AV)
  us : List (Nat × U)

def D.at (ds : List D) (i : Nat) : D := ds.getD i default
def D.sub (d : D) (j sz : Nat) (agg : Bool) : D :=
  match d with
  | .ag ds => if agg then .ag ((ds.drop j).take sz) else ds.getD j default
  | d => d
def D.cells : D → List D
  | .ag ds => ds
  | d => [d]

def D.put (usz : Nat) (d : D) (j sz : Nat) (v : D) : D :=
  if j = 0 ∧ sz = usz then v else
  match d with
  | .ag ds => .ag (ds.take j ++ v.cells ++ ds.drop (j + sz))
  | d => d
def lk : List (Nat × AV) → Nat → AV
  | [], _ => .any
  | (k, v) :: r, t => if k = t then v else lk r t

structure Gh where
  β : Nat → Option Nat
  φ : Nat → List Nat
  root : Nat → Value
  cap : Nat → Nat
  Sh : Nat → Prop

def Gh.ok (g : Gh) (tok : Option Nat) (b : Nat) : Prop := g.Sh b ∨ ∃ k, tok = some k ∧ b ∈ g.φ k ∧ g.β k ≠ some b

mutual
def VRep (h : Heap) (us : List (Nat × U)) (g : Gh) : AV → Value → Prop
  | .im tok d, v => ∃ F, Rep h d F v.cells.toList ∧ d.fits v ∧ ∀ b ∈ F, g.ok tok b
  | .tr k, v => (∃ d, (k, .own d) ∈ us) ∧ v = g.root k
  | .pw id el j, v => ∃ ow nn sz es b, (id, .ar ow nn sz es) ∈ us ∧ el < es.length ∧ j < sz ∧ g.β id = some b ∧ v = .pointer (some ⟨b, el * sz + j, none⟩)
  | .cw id el j sz agg, v => ∃ nn usz es b c e, (id, .ar true nn usz es) ∈ us ∧ el < es.length ∧ j + sz ≤ usz ∧ g.β id = some b ∧ h[b]? = some (.cells c e (0, 0)) ∧ (agg = true → (D.at es el).isAg = true) ∧
      (agg = false → sz = 1) ∧ v.cells.toList = (c.toList.drop (el * usz + j)).take sz ∧ (if agg then v = .agg v.cells else v.oneCell' = true)
  | .sm id off len, v => ∃ ow nn sz es, (id, .ar ow nn sz es) ∈ us ∧ off + len ≤ es.length ∧
      ((∃ b, g.β id = some b ∧ v = .slice (some ⟨b, off * sz, none⟩) len (g.cap id - off)) ∨ (g.β id = none ∧ off = 0 ∧ len = 0 ∧ v = .slice none 0 0))
  | .vb id len, v => ∃ sz items b, (id, .bx sz items) ∈ us ∧ items.length = len ∧ g.β id = some b ∧ v = .slice (some ⟨b, 0, none⟩) len len
  | .sg vs, v => ∃ xs, VRepL h us g vs xs ∧ v = .agg (xs.map (·.cells.toList)).flatten.toArray
  | .tup vs, v => ∃ xs, v = .tuple xs ∧ VRepL h us g vs xs.toList
  | .any, _ => True
  | .cl f vs, v => ∃ xs, VRepL h us g vs xs ∧ v = .func (.func f) #[] ⟨xs⟩
  | .pq id el j isz el' j', v => ∃ ow nn usz es b c e b' off' len' cap', (id, .ar ow nn usz es) ∈ us ∧ el < es.length ∧ j + 1 ≤ usz ∧ g.β id = some b ∧ h[b]? = some (.cells c e (0, 0)) ∧
      c[el * usz + j]? = some (.slice (some ⟨b', off', none⟩) len' cap') ∧ v = .pointer (some ⟨b', off' + el' * isz + j', none⟩)
  | .qs id el j isz off len, v => ∃ ow nn usz es b c e p len' cap', (id, .ar ow nn usz es) ∈ us ∧ el < es.length ∧ j + 1 ≤ usz ∧ g.β id = some b ∧ h[b]? = some (.cells c e (0, 0)) ∧
      c[el * usz + j]? = some (.slice p len' cap') ∧ off + len ≤ len' ∧ off ≤ cap' ∧ v = .slice (p.map fun a => a.add (if off = cap' then 0 else off * isz)) len (cap' - off)
  | .ss id off len, v => ∃ ow nn sz es, (id, .ar ow nn sz es) ∈ us ∧ off + len ≤ es.length ∧
      ((∃ b o, g.β id = some b ∧ (off < g.cap id → o = off * sz) ∧ v = .slice (some ⟨b, o, none⟩) len (g.cap id - off)) ∨ (g.β id = none ∧ len = 0 ∧ v = .slice none 0 0))
  | .z0 nn _, v => ∃ p, v = .slice p 0 0 ∧ (p = none → nn ≠ some false) ∧ (p.isSome = true → nn ≠ some true)
def VRepL (h : Heap) (us : List (Nat × U)) (g : Gh) : List AV → List Value → Prop
  | [], vs => vs = []
  | a :: as, vs => ∃ v r, vs = v :: r ∧ VRep h us g a v ∧ VRepL h us g as r
end

def UOk (h : Heap) (us : List (Nat × U)) (g : Gh) (id : Nat) : U → Prop
  | .own d => g.β id = none ∧ Rep h d (g.φ id) (g.root id).cells.toList ∧ d.fits (g.root id)
  | .ar ow nn sz es => es.length ≤ maxEl ∧ (∀ d ∈ es, d.size = sz) ∧
     ((g.β id = none ∧ es = [] ∧ g.φ id = [] ∧ nn ≠ some false) ∨
      ∃ b c e G cs rest, g.β id = some b ∧ h[b]? = some (.cells c e (0, 0)) ∧ c.toList = cs ++ rest ∧ c.size = g.cap id * sz ∧ es.length ≤ g.cap id ∧
        RepL h es G cs ∧ nn ≠ some true ∧ (if ow then g.φ id = b :: G else g.φ id = [b] ∧ ∀ x ∈ G, g.Sh x))
  | .bx sz items => items.length ≤ maxEl ∧ ∃ b c e vs, g.β id = some b ∧ h[b]? = some (.cells c e (0, 0)) ∧ g.φ id = [b] ∧ VRepL h us g items vs ∧
      (∀ v ∈ vs, v.cells.size = sz) ∧ c.toList = (vs.map (·.cells.toList)).flatten

def fp (g : Gh) (us : List (Nat × U)) : List Nat := us.flatMap fun x => g.φ x.1

def Unf (h : Heap) (b : Nat) : Prop := ∃ c e, h[b]? = some (.cells c e (0, 0))

structure USat (h : Heap) (n0 : Nat) (S0 M0 : Nat → Prop) (us : List (Nat × U)) (g : Gh) : Prop where
  keys : (us.map (·.1)).Nodup
  nodup : (fp g us).Nodup
  lt : ∀ b ∈ fp g us, b < h.size
  low : ∀ b ∈ fp g us, b < n0 → M0 b
  dead : ∀ k, k ∉ us.map (·.1) → g.φ k = []
  sh : ∀ b, g.Sh b → b < h.size ∧ (b < n0 → S0 b) ∧ b ∉ fp g us
  each : ∀ x ∈ us, UOk h us g x.1 x.2
  fz : ∀ b ∈ fp g us, Unf h b

structure Sat (n0 : Nat) (S0 M0 : Nat → Prop) (w0 : World) (st : St) (a : Act) (w : World) : Prop where
  ms : ∀ b, b < n0 → M0 b → S0 b
  dfr : a.defers = []
  tm : a.tmps.size = st.n
  base : n0 = w0.heap.size
  os : w.os = w0.os
  tape : w.tape = w0.tape
  output : w.output = w0.output
  size : w0.heap.size ≤ w.heap.size
  old : ∀ b, b < n0 → ¬ M0 b → w.heap[b]? = w0.heap[b]?
  gh : ∃ g, USat w.heap n0 S0 M0 st.us g ∧ ∀ t, VRep w.heap st.us g (lk st.env t) (a.tmps.getD t undef)

theorem mem_fp {g : Gh} {us : List (Nat × U)} {b : Nat} : b ∈ fp g us ↔ ∃ x ∈ us, b ∈ g.φ x.1 := by simp [fp]

theorem fp_apart {g : Gh} {us : List (Nat × U)} (hk : (us.map (·.1)).Nodup) (hn : (fp g us).Nodup) {x y : Nat × U} (hx : x ∈ us) (hy : y ∈ us) {b : Nat}
    (bx : b ∈ g.φ x.1) (by_ : b ∈ g.φ y.1) : x.1 = y.1 := by
  induction us with
  | nil => cases hx
  | cons z us ih =>
    simp only [List.map_cons, List.nodup_cons] at hk
    simp only [fp, List.flatMap_cons, List.nodup_append] at hn
    obtain ⟨_, hn2, hn3⟩ := hn
    rcases List.mem_cons.1 hx with e1 | hx <;> rcases List.mem_cons.1 hy with e2 | hy
    · rw [e1, e2]
    · exact absurd rfl (hn3 b (e1 ▸ bx) b (mem_fp.2 ⟨_, hy, by_⟩))
    · exact absurd rfl (hn3 b (e2 ▸ by_) b (mem_fp.2 ⟨_, hx, bx⟩))
    · exact ih hk.2 hn2 hx hy

theorem UOk.block_mem {h : Heap} {us : List (Nat × U)} {g : Gh} {id : Nat} {u : U} (hu : UOk h us g id u) {b : Nat} (hb : g.β id = some b) : b ∈ g.φ id := by
  cases u with
  | own d => simp [UOk, hb] at hu
  | ar ow nn sz es =>
    simp only [UOk] at hu
    rcases hu.2.2 with ⟨h0, _⟩ | ⟨b', c, e, G, cs, rest, h1, _, _, _, _, _, _, h7⟩
    · simp [hb] at h0
    · rw [hb] at h1; obtain rfl := Option.some.inj h1
      split at h7
      · simp [h7]
      · simp [h7.1]
  | bx sz items =>
    simp only [UOk] at hu
    obtain ⟨_, b', c, e, vs, h1, _, h3, _⟩ := hu
    rw [hb] at h1; obtain rfl := Option.some.inj h1
    simp [h3]

theorem USat.uniq {h : Heap} {n0 S0 M0 us g} (hu : USat h n0 S0 M0 us g) {id : Nat} {u v : U} (h1 : (id, u) ∈ us) (h2 : (id, v) ∈ us) : u = v := by
  have hk := hu.keys
  clear hu
  induction us with
  | nil => cases h1
  | cons z us ih =>
    simp only [List.map_cons, List.nodup_cons] at hk
    rcases List.mem_cons.1 h1 with e1 | h1 <;> rcases List.mem_cons.1 h2 with e2 | h2
    · rw [← e1] at e2; injection e2 with _ e2; exact e2.symm
    · exact absurd (List.mem_map.2 ⟨_, h2, rfl⟩) (by rw [← e1] at hk; exact hk.1)
    · exact absurd (List.mem_map.2 ⟨_, h1, rfl⟩) (by rw [← e2] at hk; exact hk.1)
    · exact ih h1 h2 hk.2

theorem USat.live {h : Heap} {n0 S0 M0 us g} (hu : USat h n0 S0 M0 us g) {k b : Nat} (hb : b ∈ g.φ k) : ∃ u, (k, u) ∈ us := by
  rcases Classical.em (k ∈ us.map (·.1)) with h1 | h1
  · obtain ⟨x, hx, rfl⟩ := List.mem_map.1 h1
    exact ⟨x.2, hx⟩
  · rw [hu.dead k h1] at hb; cases hb
theorem USat.ok_ne {h : Heap} {n0 S0 M0 us g} (hu : USat h n0 S0 M0 us g) {tok : Option Nat} {b : Nat} (hb : g.ok tok b)
    {id : Nat} {u : U} (hid : (id, u) ∈ us) {b0 : Nat} (h0 : g.β id = some b0) : b ≠ b0 := by
  rintro rfl
  have hm := (hu.each _ hid).block_mem h0
  rcases hb with hb | ⟨k, rfl, hk, hne⟩
  · exact (hu.sh b hb).2.2 (mem_fp.2 ⟨_, hid, hm⟩)
  · obtain ⟨u', hu'⟩ := hu.live hk
    have := fp_apart hu.keys hu.nodup hu' hid hk hm
    simp only at this
    subst this
    exact hne h0

mutual
theorem VRep.mono {h h' : Heap} {us us' : List (Nat × U)} {g g' : Gh} (hu : ∀ x ∈ us, x ∈ us') (hh : ∀ b, b < h.size → h'[b]? = h[b]?)
    (hβ : ∀ x ∈ us, g'.β x.1 = g.β x.1 ∧ g'.root x.1 = g.root x.1 ∧ g'.cap x.1 = g.cap x.1) (hok : ∀ t b, b < h.size → g.ok t b → g'.ok t b) :
    ∀ {a : AV} {v : Value}, VRep h us g a v → VRep h' us' g' a v
  | .im t d, v, hr => by
    simp only [VRep] at hr ⊢
    obtain ⟨F, h1, h2, h3⟩ := hr
    exact ⟨F, h1.frame fun b hb => hh b (h1.lt b hb), h2, fun b hb => hok t b (h1.lt b hb) (h3 b hb)⟩
  | .tr k, v, hr => by
    simp only [VRep] at hr ⊢
    obtain ⟨⟨d, hd⟩, hv⟩ := hr
    exact ⟨⟨d, hu _ hd⟩, by rw [(hβ _ hd).2.1]; exact hv⟩
  | .pw id el j, v, hr => by
    simp only [VRep] at hr ⊢
    obtain ⟨ow, nn, sz, es, b, h1, h2, h3, h4, h5⟩ := hr
    exact ⟨ow, nn, sz, es, b, hu _ h1, h2, h3, by rw [(hβ _ h1).1]; exact h4, h5⟩
  | .cw id el j sz agg, v, hr => by
    simp only [VRep] at hr ⊢
    obtain ⟨nn, usz, es, b, c, e, h1, h2, h3, h4, h5, h6⟩ := hr
    exact ⟨nn, usz, es, b, c, e, hu _ h1, h2, h3, by rw [(hβ _ h1).1]; exact h4, by rw [hh b (Array.getElem?_eq_some_iff.1 h5).1]; exact h5, h6⟩
  | .sm id off len, v, hr => by
    simp only [VRep] at hr ⊢
    obtain ⟨ow, nn, sz, es, h1, h2, h3⟩ := hr
    refine ⟨ow, nn, sz, es, hu _ h1, h2, ?_⟩
    rw [(hβ _ h1).1, (hβ _ h1).2.2]
    exact h3
  | .vb id len, v, hr => by
    simp only [VRep] at hr ⊢
    obtain ⟨sz, items, b, h1, h2, h3, h4⟩ := hr
    exact ⟨sz, items, b, hu _ h1, h2, by rw [(hβ _ h1).1]; exact h3, h4⟩
  | .sg vs, v, hr => by
    simp only [VRep] at hr ⊢
    obtain ⟨xs, h1, h2⟩ := hr
    exact ⟨xs, VRepL.mono hu hh hβ hok h1, h2⟩
  | .tup vs, v, hr => by
    simp only [VRep] at hr ⊢
    obtain ⟨xs, h1, h2⟩ := hr
    exact ⟨xs, h1, VRepL.mono hu hh hβ hok h2⟩
  | .any, _, _ => by simp [VRep]
  | .cl f vs, v, hr => by
    simp only [VRep] at hr ⊢
    obtain ⟨xs, h1, h2⟩ := hr
    exact ⟨xs, VRepL.mono hu hh hβ hok h1, h2⟩
  | .pq id el j isz el' j', v, hr => by
    simp only [VRep] at hr ⊢
    obtain ⟨ow, nn, usz, es, b, c, e, b', off', len', cap', h1, h2, h3, h4, h5, h6⟩ := hr
    exact ⟨ow, nn, usz, es, b, c, e, b', off', len', cap', hu _ h1, h2, h3, by rw [(hβ _ h1).1]; exact h4, by rw [hh b (Array.getElem?_eq_some_iff.1 h5).1]; exact h5, h6⟩
  | .qs id el j isz off len, v, hr => by
    simp only [VRep] at hr ⊢
    obtain ⟨ow, nn, usz, es, b, c, e, p, len', cap', h1, h2, h3, h4, h5, h6⟩ := hr
    exact ⟨ow, nn, usz, es, b, c, e, p, len', cap', hu _ h1, h2, h3, by rw [(hβ _ h1).1]; exact h4, by rw [hh b (Array.getElem?_eq_some_iff.1 h5).1]; exact h5, h6⟩
  | .ss id off len, v, hr => by
    simp only [VRep] at hr ⊢
    obtain ⟨ow, nn, sz, es, h1, h2, h3⟩ := hr
    refine ⟨ow, nn, sz, es, hu _ h1, h2, ?_⟩
    rw [(hβ _ h1).1, (hβ _ h1).2.2]
    exact h3
  | .z0 nn _, v, hr => by simpa [VRep] using hr
theorem VRepL.mono {h h' : Heap} {us us' : List (Nat × U)} {g g' : Gh} (hu : ∀ x ∈ us, x ∈ us') (hh : ∀ b, b < h.size → h'[b]? = h[b]?)
    (hβ : ∀ x ∈ us, g'.β x.1 = g.β x.1 ∧ g'.root x.1 = g.root x.1 ∧ g'.cap x.1 = g.cap x.1) (hok : ∀ t b, b < h.size → g.ok t b → g'.ok t b) :
    ∀ {as : List AV} {vs : List Value}, VRepL h us g as vs → VRepL h' us' g' as vs
  | [], _, hr => by simpa [VRepL] using hr
  | a :: as, vs, hr => by
    simp only [VRepL] at hr ⊢
    obtain ⟨v, r, h1, h2, h3⟩ := hr
    exact ⟨v, r, h1, VRep.mono hu hh hβ hok h2, VRepL.mono hu hh hβ hok h3⟩
end

theorem UOk.mono {h h' : Heap} {us us' : List (Nat × U)} {g g' : Gh} {id : Nat} {u : U} (hm : (id, u) ∈ us) (hu : ∀ x ∈ us, x ∈ us') (hh : ∀ b, b < h.size → h'[b]? = h[b]?)
    (hβ : ∀ x ∈ us, g'.β x.1 = g.β x.1 ∧ g'.root x.1 = g.root x.1 ∧ g'.cap x.1 = g.cap x.1) (hφ : g'.φ id = g.φ id) (hS : ∀ b, b < h.size → g.Sh b → g'.Sh b)
    (hok : ∀ t b, b < h.size → g.ok t b → g'.ok t b) (ho : UOk h us g id u) : UOk h' us' g' id u := by
  obtain ⟨e1, e2, e3⟩ := hβ _ hm
  simp only at e1 e2 e3
  cases u with
  | own d =>
    simp only [UOk] at ho ⊢
    obtain ⟨h1, h2, h3⟩ := ho
    rw [e1, e2, hφ]
    exact ⟨h1, h2.frame fun b hb => hh b (h2.lt b hb), h3⟩
  | ar ow nn sz es =>
    simp only [UOk] at ho ⊢
    rw [e1, e3, hφ]
    obtain ⟨h1, h2, h3⟩ := ho
    refine ⟨h1, h2, ?_⟩
    rcases h3 with h3 | ⟨b, c, e, G, cs, rest, k1, k2, k3, k4, k5, k6, k7, k8⟩
    · exact .inl h3
    · refine .inr ⟨b, c, e, G, cs, rest, k1, by rw [hh b (Array.getElem?_eq_some_iff.1 k2).1]; exact k2, k3, k4, k5, k6.frame fun x hx => hh x (k6.lt x hx), k7, ?_⟩
      cases ow
      · simp only [Bool.false_eq_true, if_false] at k8 ⊢
        exact ⟨k8.1, fun x hx => hS x (k6.lt x hx) (k8.2 x hx)⟩
      · simpa using k8
  | bx sz items =>
    simp only [UOk] at ho ⊢
    rw [e1, hφ]
    obtain ⟨h1, b, c, e, vs, k1, k2, k3, k4, k5⟩ := ho
    exact ⟨h1, b, c, e, vs, k1, by rw [hh b (Array.getElem?_eq_some_iff.1 k2).1]; exact k2, k3, VRepL.mono hu hh hβ hok k4, k5⟩

end Go.Ax
namespace Go.Ax

inductive X where
  | t (n : Nat)
  | c (d : D)
  deriving Inhabited

inductive ROp where
  | mv (d : Nat) (x : X)
  | pick (d : Nat) (c a b : X)
  | box (d sz : Nat) (x : X)
  | zer (d sz : Nat) (z : D)
  | ld (d : Nat) (agg : Bool) (sz : Nat) (a : X)
  | st (sz : Nat) (a x : X)
  | nck (d : Nat) (x : X)
  | bin (d : Nat) (op : BinOp) (x y : X)
  | beq (d : Nat) (neg : Bool) (x y : X)
  | snil (d : Nat) (neg : Bool) (x y : X)
  | ceq (d : Nat) (neg : Bool) (n : Nat) (x y : X)
  | un (d : Nat) (op : UnOp) (x : X)
  | cvt (d : Nat) (k : IntKind) (x : X)
  | mk (d sz bytes : Nat) (z : D) (l c : X)
  | slc (d sz : Nat) (x : X) (lo hi : Option X)
  | fa (d off : Nat) (x : X)
  | fl (d off sz : Nat) (agg : Bool) (x : X)
  | ia (d sz : Nat) (x i : X)
  | ix (d : Nat) (x i : X)
  | len (d : Nat) (x : X)
  | slen (d : Nat) (x : X)
  | sls (d : Nat) (x : X) (lo hi : Option X)
  | app (d sz bytes : Nat) (x y : X)
  | call (d : Option Nat) (f : Nat) (args : List X)
  | calv (d : Option Nat) (f : X) (args : List X)
  | ext (d : Nat) (x : X) (i : Nat)
  | bs (d sz : Nat) (z : D) (len : Nat) (parts : List (Nat × X))
  | bld (d : Nat) (z : D) (parts : List (Nat × Nat × X))
  | mcl (d f : Nat) (x y : X)
  | cls (d f : Nat) (x : X) (args : List X)
  | mkf (d f : Nat) (args : List X)
  | s30 (d sz : Nat) (x : X)
  | cpy (d : Option Nat) (sz : Nat) (x y : X)
  | other (o : Oper)
  deriving Inhabited

def ROp.dst : ROp → Option Nat
  | .mv d _ | .pick d _ _ _ | .box d _ _ | .zer d _ _ | .ld d _ _ _ | .nck d _ | .bin d _ _ _ | .beq d _ _ _ | .snil d _ _ _ | .ceq d _ _ _ _ | .un d _ _ | .cvt d _ _ | .mk d _ _ _ _ _ | .slc d _ _ _ _
  | .fa d _ _ | .fl d _ _ _ _ | .ia d _ _ _ | .ix d _ _ | .len d _ | .slen d _ | .sls d _ _ _ | .app d _ _ _ _ | .ext d _ _ | .bs d _ _ _ _ | .bld d _ _ | .mcl d _ _ _ | .cls d _ _ _ | .mkf d _ _ | .s30 d _ _ => some d
  | .call d _ _ | .calv d _ _ | .cpy d _ _ _ => d
  | .st .. => none
  | .other o => o.dst
structure RO where
  g : Option (Nat × Bool)
  op : ROp
  deriving Inhabited

inductive RC where
  | skip
  | reg (draw : Bool) (ops : List RO)

  | regL (N : List RO) (E : List (List ROp × RO))
  | seq (a b : RC)
  | cond (x : X) (a b : RC)
  | blk (id : Nat) (c : RC)
  | loop (c : RC)
  | exit (id : Nat)
  | ret
  | other (c : Code)
  deriving Inhabited

def cellSzs (P : Program) : Nat → TypeId → List Nat
  | 0, _ => []
  | n + 1, t =>
    match P.underlying t with
    | some (.struct fs) => (fs.toList.map fun f => cellSzs P n f.type).flatten
    | some (.array k e) => (List.replicate k (cellSzs P n e)).flatten
    | some (.slice e) => [((P.info? e).map (·.size)).getD 0]
    | _ => [0]

def cellD (v : Value) (sz : Nat) : D :=
  match v with
  | .slice none 0 0 => .ls (some true) sz []
  | v => .sc v

def constD (P : Program) (t : TypeId) (v : Value) : Option D :=
  let s := cellSzs P 20 t
  match v with
  | .agg cs => if s.length = cs.size && cs.all (·.oneCell') then some (.ag (List.zipWith cellD cs.toList s)) else none
  | v => if v.oneCell' then some (cellD v (s.headD 0)) else none

def resX (P : Program) (t : TypeId) : Operand → Option X
  | .tmp n => some (.t n)
  | .const v => (constD P t v).map .c
  | .global g => some (.c (.sc (.pointer (some ⟨g, 0, none⟩))))
  | .func f => some (.c (.sc (.func (.func f) #[] #[])))

def aggOf (P : Program) (t : TypeId) : Option Bool :=
  match P.underlying t with
  | some (.struct _) | some (.array _ _) => some true
  | some _ => some false
  | none => none

def szOf (P : Program) (t : TypeId) : Option Nat := (P.info? t).map (·.size)

def zeroOf (P : Program) (t : TypeId) : Option D :=
  match P.info? t with
  | some i => match i.zero with
    | some z => if z.cells.size = i.size then constD P t z else none
    | none => none
  | none => none

def elemOf (P : Program) (t : TypeId) : Option TypeId :=
  match P.underlying t with
  | some (.slice e) => some e
  | _ => none

def intsFrom (P : Program) : Nat → List Field → Bool
  | _, [] => true
  | i, f :: fs => f.name != "_" && f.offset == i && szOf P f.type == some 1 && aggOf P f.type == some false && (match P.underlying f.type with | some (.int _) => true | _ => false) && intsFrom P (i + 1) fs
def ceqOk (P : Program) (t : TypeId) (fs : Array Field) : Bool := !P.stoodInHeld t && !P.eqGuardType P.depth t && intsFrom P 0 fs.toList

def markNames : List String := ["loop.example/g01101/laws.markAutomaton", "loop.example/g01101/laws.markBoolS", "loop.example/g01101/laws.markBoolSS", "loop.example/g01101/laws.markBoolSSS", "loop.example/g01101/laws.markCosts", "loop.example/g01101/laws.markEquation", "loop.example/g01101/laws.markExpr", "loop.example/g01101/laws.markExprS", "loop.example/g01101/laws.markFlow", "loop.example/g01101/laws.markInt64S", "loop.example/g01101/laws.markInt64SS", "loop.example/g01101/laws.markInt64SSS", "loop.example/g01101/laws.markModel", "loop.example/g01101/laws.markProg", "loop.example/g01101/laws.markProgS", "loop.example/g01101/laws.markSpotS", "loop.example/g01101/laws.markWord", "loop.example/g01101/laws.markPair", "loop.example/g01101/laws.markPairS", "loop.example/g01101/laws.markProof", "loop.example/g01101/laws.markClaim", "loop.example/g01101/laws.markClaimS", "loop.example/g01101/laws.markProofStepS", "loop.example/g01101/laws.markWordS", "loop.example/g01101/laws.markWorld", "loop.example/g01101/laws.markWorldS", "loop.example/g01101/laws.markSpot"]
def isMark (P : Program) (f : Nat) : Bool := match P.funcs[f]? with | some fn => markNames.any (fun s => s == fn.name) | none => false

def shrNames : List String := ["loop.example/g01101/spec.l04At"]
def isShr (P : Program) (f : Nat) : Bool := match P.funcs[f]? with | some fn => shrNames.any (fun s => s == fn.name) | none => false

def isC0 : Operand → Bool
  | .const (.int .i64 n) => n == 0
  | _ => false

def resOp (P : Program) (n : Nat) (o : Oper) : Option ROp := do
  match o.op with
  | .move x | .assign x => let d ← o.dst; guard (d < n); pure (.mv d (← resX P o.type x))
  | .pick c a b => let d ← o.dst; guard (d < n); pure (.pick d (← resX P 0 c) (← resX P o.type a) (← resX P o.type b))
  | .box e x => let d ← o.dst; guard (d < n); pure (.box d (← szOf P e) (← resX P e x))
  | .alloc e => let d ← o.dst; guard (d < n); pure (.zer d (← szOf P e) (← zeroOf P e))
  | .load t a => let d ← o.dst; guard (d < n); let s ← szOf P t; let g ← aggOf P t; guard (g || s == 1); pure (.ld d g s (← resX P 0 a))
  | .store t a x => guard o.dst.isNone; pure (.st (← szOf P t) (← resX P 0 a) (← resX P t x))
  | .nilCheck x => let d ← o.dst; guard (d < n); pure (.nck d (← resX P o.type x))
  | .binOp op t x y u => let d ← o.dst; guard (d < n)
                         match op, P.underlying t with
                         | _, some (.int _) | _, some .string => pure (.bin d op (← resX P t x) (← resX P u y))
                         | .eql, some .bool => pure (.beq d false (← resX P t x) (← resX P u y))
                         | .neq, some .bool => pure (.beq d true (← resX P t x) (← resX P u y))
                         | .eql, some (.slice _) => pure (.snil d false (← resX P t x) (← resX P u y))
                         | .neq, some (.slice _) => pure (.snil d true (← resX P t x) (← resX P u y))
                         | .eql, some (.struct fs) => if ceqOk P t fs then pure (.ceq d false fs.size (← resX P t x) (← resX P u y)) else pure (.other o)
                         | .neq, some (.struct fs) => if ceqOk P t fs then pure (.ceq d true fs.size (← resX P t x) (← resX P u y)) else pure (.other o)
                         | _, _ => pure (.other o)
  | .unOp op t x => let d ← o.dst; guard (d < n); pure (.un d op (← resX P t x))
  | .convert s t x => let d ← o.dst; guard (d < n)
                      match P.underlying s, P.underlying t with
                      | some (.int _), some (.int k) => pure (.cvt d k (← resX P s x))
                      | _, _ => pure (.other o)
  | .makeSlice t l c => let d ← o.dst; guard (d < n); let e ← elemOf P t; let i ← P.info? e; pure (.mk d i.size i.bytes (← zeroOf P e) (← resX P 0 l) (← resX P 0 c))
  | .slice t x lo hi none => let d ← o.dst; guard (d < n)
                             let lo ← (match lo with | some y => (resX P 0 y).map some | none => some none)
                             let hi ← (match hi with | some y => (resX P 0 y).map some | none => some none)
                             match P.underlying t with
                             | some (.slice e) => pure (.slc d (← szOf P e) (← resX P t x) lo hi)
                             | some .string => pure (.sls d (← resX P t x) lo hi)
                             | _ => pure (.other o)
  | .slice t x lo hi (some mx) =>
    let d ← o.dst; guard (d < n)
    match P.underlying t, lo with
    | some (.slice e), none => if (hi.map isC0).getD false && isC0 mx then pure (.s30 d (← szOf P e) (← resX P t x)) else pure (.other o)
    | _, _ => pure (.other o)
  | .makeFunc fn first captured =>
    let d ← o.dst; guard (d < n)
    match fn, first.toList with
    | .func f, [] => pure (.mkf d f (← captured.toList.mapM fun x => resX P 0 x))
    | _, _ => pure (.other o)
  | .fieldAddr t x k => let d ← o.dst; guard (d < n)
                        match P.underlying t with
                        | some (.struct fs) => let f ← fs[k]?; guard ((← szOf P f.type) != 0); pure (.fa d f.offset (← resX P 0 x))
                        | _ => none
  | .field t x k => let d ← o.dst; guard (d < n)
                    match P.underlying t with
                    | some (.struct fs) => let f ← fs[k]?; let s ← szOf P f.type; let g ← aggOf P f.type; guard (g || s == 1); pure (.fl d f.offset s g (← resX P t x))
                    | _ => none
  | .indexAddr t x i => let d ← o.dst; guard (d < n)
                        match P.underlying t with
                        | some (.slice e) => pure (.ia d (← szOf P e) (← resX P t x) (← resX P 0 i))
                        | _ => pure (.other o)
  | .index t x i => let d ← o.dst; guard (d < n)
                    match P.underlying t with
                    | some .string => pure (.ix d (← resX P t x) (← resX P 0 i))
                    | _ => pure (.other o)
  | .extract x i => let d ← o.dst; guard (d < n); pure (.ext d (← resX P 0 x) i)
  | .buildSlice t l ps => let d ← o.dst; guard (d < n); let e ← elemOf P t; let s ← szOf P e
                          pure (.bs d s (← zeroOf P e) l (← ps.toList.mapM fun (i, x) => do pure (i, ← resX P e x)))
  | .build t ps => let d ← o.dst; guard (d < n)
                   match P.underlying t with
                   | some (.struct fs) =>
                     let _ ← fs.toList.mapM fun f => (P.info? f.type).map fun i => (f.offset, i.size)
                     pure (.bld d (← zeroOf P t) (← ps.toList.mapM fun (i, x) => do let f ← fs[i]?; pure (f.offset, ← szOf P f.type, ← resX P f.type x)))
                   | _ => pure (.other o)
  | .call c =>
    match c.callee with
    | .value (.func f) =>
      guard (o.dst.all (· < n)); guard (c.args.size == c.argTypes.size)
      let xs ← (c.args.toList.zip c.argTypes.toList).mapM fun (x, t) => resX P t x
      if isMark P f then (match o.dst, xs with
        | some d, [x, y] => pure (.mcl d f x y)
        | _, _ => none)
      else if isShr P f then (match o.dst, xs with
        | some d, x :: r => pure (.cls d f x r)
        | _, _ => none)
      else pure (.call o.dst f xs)
    | .value x => guard (o.dst.all (· < n)); guard (c.args.size == c.argTypes.size); pure (.calv o.dst (← resX P 0 x) (← (c.args.toList.zip c.argTypes.toList).mapM fun (x, t) => resX P t x))
    | .builtin .len =>
      let d ← o.dst; guard (d < n)
      match c.args.toList, c.argTypes.toList with
      | [x], [t] => (match P.underlying t with | some .string => do pure (.slen d (← resX P t x)) | some (.slice _) => do pure (.len d (← resX P t x)) | _ => pure (.other o))
      | _, _ => none
    | .builtin .append =>
      let d ← o.dst; guard (d < n)
      match c.args.toList, c.argTypes.toList with
      | [x, y], [t, u] => (match P.underlying t, P.underlying u with
        | some (.slice e), some (.slice _) => do let i ← P.info? e; guard (t == u); let _ ← zeroOf P e; pure (.app d i.size i.bytes (← resX P t x) (← resX P u y))
        | _, _ => pure (.other o))
      | _, _ => none
    | .builtin .copy =>
      guard (o.dst.all (· < n))
      match c.args.toList, c.argTypes.toList with
      | [x, y], [t, u] => (match P.underlying t, P.underlying u with
        | some (.slice e), some (.slice _) => do let s ← szOf P e; guard (t == u); pure (.cpy o.dst s (← resX P t x) (← resX P u y))
        | _, _ => pure (.other o))
      | _, _ => none
    | _ => pure (.other o)
  | _ => pure (.other o)

def resRO (P : Program) (n : Nat) (ops : Array Oper) (o : Oper) : Option RO := do
  let r ← resOp P n o
  guard (r.dst = o.dst)
  guard (o.dst.all (· < n) = true)
  match o.guard with
  | none => pure ⟨none, r⟩
  | some (j, b) => let p ← ops[j]?; let d ← p.dst; pure ⟨some (d, b), r⟩

end Go.Ax
namespace Go.Ax

def imDs (sz : Nat) : List AV → Option (List D)
  | [] => some []
  | .im none d :: r => if d.size = sz then (match imDs sz r with | some ds => some (d :: ds) | none => none) else none
  | _ :: _ => none

mutual

def D.noPtr : D → Bool
  | .sc _ => true
  | .ag ds => D.noPtrL ds
  | .ls nn _ ds => nn == some true && ds.isEmpty
  | .pt _ _ => false
  | .jk => true
  | .fn _ _ => false
def D.noPtrL : List D → Bool
  | [] => true
  | d :: ds => d.noPtr && D.noPtrL ds
end

mutual

def D.flat : D → Bool
  | .sc _ => true
  | .ag ds => D.flatL ds
  | .ls _ _ _ => false
  | .pt _ _ => false
  | .jk => true
  | .fn _ _ => false
def D.flatL : List D → Bool
  | [] => true
  | d :: ds => d.flat && D.flatL ds
end
mutual
theorem D.flat_noPtr : ∀ {d : D}, d.flat = true → d.noPtr = true
  | .sc _, _ => rfl
  | .ag ds, h => by simp only [D.flat] at h; simp only [D.noPtr]; exact D.flatL_noPtr h
  | .ls _ _ _, h => by simp [D.flat] at h
  | .pt _ _, h => by simp [D.flat] at h
  | .jk, _ => rfl
  | .fn _ _, h => by simp [D.flat] at h
theorem D.flatL_noPtr : ∀ {ds : List D}, D.flatL ds = true → D.noPtrL ds = true
  | [], _ => rfl
  | d :: ds, h => by
    simp only [D.flatL, Bool.and_eq_true] at h
    simp only [D.noPtrL, D.flat_noPtr h.1, D.flatL_noPtr h.2, Bool.and_self]
end

def litTok : Nat := 4000000000
def litAV (d : D) : AV := if d.flat then .im none d else .im (some litTok) d

def St.get (st : St) (t : Nat) : AV := lk st.env t
def St.ev (st : St) : X → AV
  | .t n => st.get n
  | .c d => litAV d
def lu : List (Nat × U) → Nat → Option U
  | [], _ => none
  | (k, v) :: r, t => if k = t then some v else lu r t
def St.unit (st : St) (k : Nat) : Option U := lu st.us k

mutual

def AV.refs (k : Nat) : AV → Bool
  | .im t _ => t == some k
  | .tr i => i == k
  | .pw i _ _ => i == k
  | .cw i _ _ _ _ => i == k
  | .sm i _ _ => i == k
  | .vb i _ => i == k
  | .sg vs => AV.refsL k vs
  | .tup vs => AV.refsL k vs
  | .any => false
  | .cl _ vs => AV.refsL k vs
  | .pq i _ _ _ _ _ => i == k
  | .qs i _ _ _ _ _ => i == k
  | .ss i _ _ => i == k
  | .z0 _ _ => false
def AV.refsL (k : Nat) : List AV → Bool
  | [] => false
  | v :: vs => v.refs k || AV.refsL k vs
end
mutual

def AV.soft (k : Nat) : AV → Bool
  | .cw i _ _ _ _ => i == k
  | .im t _ => t == some k
  | .sg vs => AV.softL k vs
  | .tup vs => AV.softL k vs
  | .cl _ vs => AV.softL k vs
  | .pq i _ _ _ _ _ => i == k
  | .qs i _ _ _ _ _ => i == k
  | _ => false
def AV.softL (k : Nat) : List AV → Bool
  | [] => false
  | v :: vs => v.soft k || AV.softL k vs
end

def St.set (st : St) (d : Nat) (v : AV) : St := { st with env := (d, v) :: st.env }
def St.setO (st : St) (d : Option Nat) (v : AV) : St := match d with | some d => st.set d v | none => st
def St.addUs (st : St) (us : List (Nat × U)) : St := { st with us := us ++ st.us }
def noU (k : Nat) : List (Nat × U) → Bool
  | [] => true
  | (i, _) :: r => i != k && noU k r
def St.fresh (st : St) : List (Nat × U) → Bool
  | [] => true
  | x :: r => noU x.1 st.us && noU x.1 r && st.fresh r
def killE (f : AV → Bool) : List (Nat × AV) → List (Nat × AV)
  | [] => []
  | (k, v) :: r => (k, if f v then .any else v) :: killE f r
def killL (f : AV → Bool) : List AV → List AV
  | [] => []
  | v :: r => (if f v then .any else v) :: killL f r
def U.kill (f : AV → Bool) : U → U
  | .bx sz items => .bx sz (killL f items)
  | u => u
def killU (k : Nat) (f : AV → Bool) : List (Nat × U) → List (Nat × U)
  | [] => []
  | (i, u) :: r => if i = k then killU k f r else (i, u.kill f) :: killU k f r

def St.del (st : St) (k : Nat) : St := ⟨st.n, killE (AV.refs k) st.env, killU k (AV.refs k) st.us⟩

def St.upd (st : St) (k : Nat) (u : U) : St := ⟨st.n, killE (AV.soft k) st.env, (k, u) :: killU k (AV.soft k) st.us⟩

def AV.softC (k el : Nat) : AV → Bool
  | .cw i el' _ _ _ => i == k && el' == el
  | .im t _ => t == some k
  | .sg vs => AV.softL k vs
  | .tup vs => AV.softL k vs
  | .cl _ vs => AV.softL k vs
  | .pq i _ _ _ _ _ => i == k
  | .qs i _ _ _ _ _ => i == k
  | .tr _ => false
  | .pw _ _ _ => false
  | .sm _ _ _ => false
  | .vb _ _ => false
  | .any => false
  | .ss _ _ _ => false
  | .z0 _ _ => false

def St.updC (st : St) (k el : Nat) (u : U) : St := ⟨st.n, killE (AV.softC k el) st.env, (k, u) :: killU k (AV.softC k el) st.us⟩

def St.upr (st : St) (k : Nat) (u : U) : St := ⟨st.n, killE (AV.refs k) st.env, (k, u) :: killU k (AV.refs k) st.us⟩

def ldAV (ow : Bool) (id el j sz : Nat) (agg : Bool) (d : D) : AV :=
  if ow then (if d.flat then .im none d else .cw id el j sz agg) else .im none d

def inSub (off len isz : Nat) : D → Option D
  | .ls nn sz ds => if sz = isz then some (.ls (if off = 0 ∧ len = ds.length then nn else none) sz ((ds.drop off).take len)) else none
  | _ => none
def AV.den (un : Nat → Option U) : AV → Option (Option Nat × D)
  | .im t d => some (t, d)
  | .tr k => match un k with | some (.own d) => some (some k, d) | _ => none
  | .cw id el j sz agg => match un id with | some (.ar true _ _ es) => some (some id, D.sub (D.at es el) j sz agg) | _ => none
  | .qs id el j isz off len => match un id with | some (.ar true _ _ es) => (inSub off len isz (D.sub (D.at es el) j 1 false)).map (some id, ·) | _ => none
  | _ => none

def binV (op : BinOp) (x y : Value) (k : Value → Prop) : Prop :=
  match x, y with
  | .int a m, .int b n =>
    match op with
    | .shl => 0 ≤ n ∧ k (.int a (a.wrap (m * 2 ^ (min n.toNat a.bits))))
    | .shr => 0 ≤ n ∧ k (.int a (m.fdiv (2 ^ (min n.toNat a.bits))))
    | .add => a = b ∧ k (.int a (a.wrap (m + n)))
    | .sub => a = b ∧ k (.int a (a.wrap (m - n)))
    | .mul => a = b ∧ k (.int a (a.wrap (m * n)))
    | .quo => a = b ∧ n ≠ 0 ∧ k (.int a (a.wrap (m.tdiv n)))
    | .rem => a = b ∧ n ≠ 0 ∧ k (.int a (m.tmod n))
    | .and => a = b ∧ k (.int a (a.wrap (BitVec.ofInt a.bits m &&& BitVec.ofInt a.bits n).toNat))
    | .or => a = b ∧ k (.int a (a.wrap (BitVec.ofInt a.bits m ||| BitVec.ofInt a.bits n).toNat))
    | .xor => a = b ∧ k (.int a (a.wrap (BitVec.ofInt a.bits m ^^^ BitVec.ofInt a.bits n).toNat))
    | .andNot => a = b ∧ k (.int a (a.wrap (BitVec.ofInt a.bits m &&& ~~~BitVec.ofInt a.bits n).toNat))
    | .eql => a = b ∧ k (.bool (m == n))
    | .neq => a = b ∧ k (.bool (m != n))
    | .lss => a = b ∧ k (.bool (m < n))
    | .leq => a = b ∧ k (.bool (m ≤ n))
    | .gtr => a = b ∧ k (.bool (m > n))
    | .geq => a = b ∧ k (.bool (m ≥ n))
  | .string a, .string b =>
    match op with
    | .eql => k (.bool (a.toList == b.toList))
    | .neq => k (.bool !(a.toList == b.toList))
    | .add => a.size + b.size ≤ 9223372036854775807 ∧ k (.string (a ++ b))
    | _ => False
  | _, _ => False

def binA (op : BinOp) (x y : AV) (k : Value → Prop) : Prop :=
  match x, y with
  | .im _ (.sc a), .im _ (.sc b) => binV op a b k
  | _, _ => False

def inPt (isz el' j' : Nat) : D → Option D
  | .ls _ sz ds => if sz = isz ∧ el' < ds.length ∧ j' < isz then some (.pt (D.at ds el') j') else none
  | _ => none
mutual
def AV.arg (un : Nat → Option U) : AV → Option D
  | .im _ d => some d
  | .tr k => match un k with | some (.own d) => some d | _ => none
  | .cw id el j sz agg => match un id with | some (.ar true _ _ es) => some (D.sub (D.at es el) j sz agg) | _ => none
  | .pw id el j => match un id with | some (.ar _ _ _ es) => some (.pt (D.at es el) j) | _ => none
  | .sm id off len => match un id with | some (.ar _ nn sz es) => some (.ls (if off = 0 ∧ len = es.length then nn else none) sz ((es.drop off).take len)) | _ => none
  | .ss id off len => match un id with | some (.ar _ _ sz es) => some (.ls none sz ((es.drop off).take len)) | _ => none
  | .vb id len => match un id with | some (.bx sz items) => if len = items.length then (match imDs sz items with | some ds => some (.ls (some false) sz ds) | none => none) else none | _ => none
  | .qs id el j isz off len => match un id with | some (.ar true _ _ es) => inSub off len isz (D.sub (D.at es el) j 1 false) | _ => none
  | .pq id el j isz el' j' => match un id with | some (.ar true _ _ es) => inPt isz el' j' (D.sub (D.at es el) j 1 false) | _ => none
  | .cl f vs => match argsOf un vs with | some ds => some (.fn f ds) | none => none
  | .z0 nn sz => some (.ls nn sz [])
  | .sg _ => none
  | .tup _ => none
  | .any => none
def argsOf (un : Nat → Option U) : List AV → Option (List D)
  | [] => some []
  | a :: as => match a.arg un, argsOf un as with | some d, some ds => some (d :: ds) | _, _ => none
end
mutual
def AV.shared : AV → Bool
  | .im none _ => true
  | .im (some t) d => t == litTok && d.noPtr
  | .cl _ vs => AV.sharedL vs
  | _ => false
def AV.sharedL : List AV → Bool
  | [] => true
  | v :: vs => v.shared && AV.sharedL vs
end

inductive Ret where
  | own (d : D)
  | sh (d : D)
  | tup (rs : List Ret)

  | arr (sz : Nat) (es : List D)

def D.Le (d e : D) : Prop := (∀ (h : Heap) F cs, Rep h d F cs → Rep h e F cs) ∧ (∀ v : Value, d.fits v → e.fits v)

def D.LeA (d e : D) : Prop := (∀ (h : Heap) F cs, Rep h d F cs → ∃ F', Rep h e F' cs ∧ ∀ b ∈ F', b ∈ F) ∧ (∀ v : Value, d.fits v → e.fits v)
def D.LeL : List D → List D → Prop
  | [], [] => True
  | d :: ds, e :: es => d.LeA e ∧ D.LeL ds es
  | _, _ => False

def ArgsRep (h : Heap) (old : Nat → Prop) : List D → List Value → Prop
  | [], vs => vs = []
  | d :: ds, vs => ∃ v r F, vs = v :: r ∧ Rep h d F v.cells.toList ∧ d.fits v ∧ (∀ b ∈ F, old b) ∧ ArgsRep h old ds r
mutual
def RetRep (h : Heap) : Ret → List Nat → List Nat → Value → Prop
  | .own d, F, G, v => G = [] ∧ Rep h d F v.cells.toList ∧ d.fits v
  | .sh d, F, G, v => F = [] ∧ Rep h d G v.cells.toList ∧ d.fits v
  | .tup rs, F, G, v => ∃ vs, v = .tuple vs ∧ RetRepL h rs F G vs.toList
  | .arr sz es, F, G, v => G = [] ∧ es.length ≤ maxEl ∧ (∀ d ∈ es, d.size = sz) ∧ ∃ b c e F' cs rest cap, v = .slice (some ⟨b, 0, none⟩) es.length cap ∧ F = b :: F' ∧ h[b]? = some (.cells c e (0, 0)) ∧
      c.toList = cs ++ rest ∧ c.size = cap * sz ∧ es.length ≤ cap ∧ RepL h es F' cs
def RetRepL (h : Heap) : List Ret → List Nat → List Nat → List Value → Prop
  | [], F, G, vs => F = [] ∧ G = [] ∧ vs = []
  | r :: rs, F, G, vs => ∃ F1 F2 G1 G2 v ws, F = F1 ++ F2 ∧ G = G1 ++ G2 ∧ vs = v :: ws ∧ RetRep h r F1 G1 v ∧ RetRepL h rs F2 G2 ws
end
def Callable (P : Program) (f : Nat) : Prop := ∃ fn, P.funcs[f]? = some fn ∧ fn.body.isSome = true ∧ (fn.name == "runtime.NumGoroutine") = false
def AF (P : Program) (f : Nat) (ds : List D) (r : Ret) : Prop := Callable P f ∧
  ∀ (w : World) (vs : List Value) (old : Nat → Prop), ArgsRep w.heap old ds vs →
    Calls P f vs.toArray w fun e w' => ∃ v F G, e = .returned v ∧ Go.RowKit.Below w.heap.size w w' ∧ RetRep w'.heap r F G v ∧
      F.Nodup ∧ (∀ b ∈ F, w.heap.size ≤ b ∧ b ∉ G ∧ Unf w'.heap b) ∧ ∀ b ∈ G, (w.heap.size ≤ b ∧ b < w'.heap.size) ∨ old b

def bindR (n : Nat) (allsh : Bool) : Ret → AV × List (Nat × U)
  | .own d => if d.flat then (.im none d, []) else (.tr n, [(n, .own d)])
  | .sh d => (if allsh then .im none d else .any, [])
  | .arr sz es => (.sm n 0 es.length, [(n, .ar true (some false) sz es)])
  | .tup rs => let l := bindL (n + 1000) rs; (.tup (l.map (·.1)), (l.map (·.2)).flatten)
where bindL (n : Nat) : List Ret → List (AV × List (Nat × U))
  | [] => []
  | r :: rs => (match r with
      | .own d => if d.flat then (.im none d, []) else (.tr n, [(n, .own d)])
      | .sh d => (if allsh then .im none d else .any, [])
      | .arr sz es => (.sm n 0 es.length, [(n, .ar true (some false) sz es)])
      | .tup _ => (.any, [])) :: bindL (n + 1000) rs

def callO (P : Program) (dst : Option Nat) (f : Nat) (args : List AV) (un : Nat → Option U) (k : AV → List (Nat × U) → Prop) : Prop :=
  ∃ ds es r, argsOf un args = some ds ∧ D.LeL ds es ∧ AF P f es r ∧ (let b := bindR (dst.getD 0) (args.all AV.shared) r; k b.1 b.2)

def tD (cs : List Value) : Value ⊕ Nat → D
  | .inl c => .sc c
  | .inr i => .sc (cs.getD i undef)
def tV (cs : List Value) : Value ⊕ Nat → Value
  | .inl c => c
  | .inr i => cs.getD i undef
def tA (avs : List AV) : Value ⊕ Nat → AV
  | .inl c => .im none (.sc c)
  | .inr i => avs.getD i .any
def tOk (m : Nat) : Value ⊕ Nat → Bool
  | .inl c => c.oneCell'
  | .inr i => i < m
def AFT (P : Program) (f m : Nat) (T : List (Value ⊕ Nat)) : Prop := T.all (tOk m) = true ∧
  ∀ cs : List Value, cs.length = m → (∀ c ∈ cs, c.oneCell' = true) → AF P f (cs.map .sc) (.own (.ag (T.map (tD cs))))
def AV.one (un : Nat → Option U) : AV → Bool
  | .im _ d => d.size == 1 && !d.isAg
  | .tr k => match un k with | some (.own d) => d.size == 1 && !d.isAg | _ => false
  | .sm _ _ _ => true
  | .vb _ _ => true
  | .cw _ _ _ sz agg => sz == 1 && !agg
  | _ => false
def callT (P : Program) (f : Nat) (args : List AV) (un : Nat → Option U) (k : AV → List (Nat × U) → Prop) : Prop :=
  ∃ T, AFT P f args.length T ∧ args.all (AV.one un) = true ∧ k (.sg (T.map (tA args))) []

def fillSg (z : List D) : Nat → List (Nat × Nat × AV) → List AV
  | o, [] => (z.drop o).map litAV
  | o, (p, s, v) :: r => ((z.drop o).take (p - o)).map litAV ++ v :: fillSg z (p + s) r

def sortedB (n : Nat) : Nat → List (Nat × Nat) → Bool
  | _, [] => true
  | o, (p, s) :: r => decide (o ≤ p) && decide (p + s ≤ n) && sortedB n (p + s) r
def AV.size (un : Nat → Option U) : AV → Nat
  | .im _ d => d.size
  | .tr k => match un k with | some (.own d) => d.size | _ => 0
  | .cw _ _ _ s _ => s
  | .any => 0
  | .sg _ => 0
  | .tup _ => 0
  | _ => 1
def itemOk (un : Nat → Option U) (sz : Nat) : AV → Bool
  | .im none d => d.size == sz
  | .im (some _) d => d.noPtr && d.size == sz
  | .cw _ _ _ s _ => s == sz
  | .tr k => match un k with | some (.own d) => d.size == sz | _ => false
  | .sm _ _ _ => sz == 1
  | .sg vs => vs.all (fun a => AV.size un a != 0) && (vs.map (AV.size un)).sum == sz
  | _ => false

def imAll : List AV → Option (List D)
  | [] => some []
  | .im none d :: r => match imAll r with | some ds => some (d.cells ++ ds) | none => none
  | _ :: _ => none
def sgAV (vs : List AV) : AV := match imAll vs with | some ds => .im none (.ag ds) | none => .sg vs

def AFP (P : Program) (f : Nat) : Prop := Callable P f ∧ ∀ (k : Int) (a b : Array Value) (w : World), a.size = 3 → b.size = 3 →
  Calls P f #[.int .i64 k, .agg a, .agg b] w fun e w' => (∃ x t, e = .returned (.agg #[.int .i64 k, .int .i64 0, .slice (some ⟨x, 0, none⟩) 2 2]) ∧ w.heap.size ≤ x ∧ w'.heap[x]? = some (.cells (a ++ b) t (0, 0))) ∧ Go.RowKit.Below w.heap.size w w'
def AV.aggV (un : Nat → Option U) : AV → Bool
  | .im none d => d.isAg
  | .tr k => match un k with | some (.own d) => d.isAg | _ => false
  | .cw _ _ _ _ agg => agg
  | .sg _ => true
  | _ => false
def callP (P : Program) (dst : Option Nat) (f : Nat) (args : List AV) (un : Nat → Option U) (k : AV → List (Nat × U) → Prop) : Prop :=
  ∃ t kk B C, args = [.im t (.sc (.int .i64 kk)), B, C] ∧ AFP P f ∧ (AV.aggV un B && itemOk un 3 B) = true ∧ (AV.aggV un C && itemOk un 3 C) = true ∧
    k (.sg [.im none (.sc (.int .i64 kk)), .im none (.sc (.int .i64 0)), .vb (dst.getD 0) 2]) [(dst.getD 0, .bx 3 [B, C])]
def callQ (P : Program) (dst : Option Nat) (f : Nat) (args : List AV) (un : Nat → Option U) (k : AV → List (Nat × U) → Prop) : Prop :=
  callO P dst f args un k ∨ callT P f args un k ∨ callP P dst f args un k

abbrev KQ := AV → List (Nat × U) → Prop
def pickK (c : AV) (a b : AV) (k : KQ) : Prop :=
  match c with
  | .im _ (.sc (.bool t)) => (t = true → k a []) ∧ (t = false → k b [])
  | _ => False
def boxK (x : AV) (d sz : Nat) (k : KQ) : Prop :=
  match x with
  | .im none e => (0 < sz ∧ e.size = sz) ∧ k (.pw d 0 0) [(d, .ar false (some false) sz [e])]
  | _ => False
def ldW (u : Option U) (id el j : Nat) (agg : Bool) (sz : Nat) (k : KQ) : Prop :=
  match u with
  | some (.ar ow _ usz es) => (j + sz ≤ usz ∧ (agg = true → (D.at es el).isAg = true)) ∧ k (ldAV ow id el j sz agg (D.sub (D.at es el) j sz agg)) []
  | _ => False
def D.isSc : D → Bool
  | .sc _ => true
  | _ => false
def inTok (agg : Bool) (id : Nat) (d : D) : Option Nat := if agg = false ∧ d.isSc = true then none else some id

def inLd (isz el' j' sz : Nat) (agg : Bool) (id : Nat) (d : D) (k : KQ) : Prop :=
  match d with
  | .ls _ sz' ds => (sz' = isz ∧ el' < ds.length ∧ j' < isz ∧ j' + sz ≤ isz ∧ (agg = true → (D.at ds el').isAg = true)) ∧ k (.im (inTok agg id (D.sub (D.at ds el') j' sz agg)) (D.sub (D.at ds el') j' sz agg)) []
  | _ => False
def ldQ (u : Option U) (id el j isz el' j' : Nat) (agg : Bool) (sz : Nat) (k : KQ) : Prop :=
  match u with
  | some (.ar true _ _ es) => inLd isz el' j' sz agg id (D.sub (D.at es el) j 1 false) k
  | _ => False
def ldK (a : AV) (un : Nat → Option U) (agg : Bool) (sz : Nat) (k : KQ) : Prop :=
  match a with
  | .im t (.pt d j) => (j + sz ≤ d.size ∧ (agg = true → d.isAg = true)) ∧ k (.im t (D.sub d j sz agg)) []
  | .pw id el j => ldW (un id) id el j agg sz k
  | .pq id el j isz el' j' => ldQ (un id) id el j isz el' j' agg sz k
  | _ => False
def nckK (x : AV) (k : KQ) : Prop :=
  match x with
  | .im t (.pt d j) => k (.im t (.pt d j)) []
  | .pw id el j => k (.pw id el j) []
  | .pq id el j isz el' j' => k (.pq id el j isz el' j') []
  | _ => False
def binK (op : BinOp) (x y : AV) (k : KQ) : Prop := binA op x y fun v => k (.im none (.sc v)) []
def beqK (neg : Bool) (x y : AV) (k : KQ) : Prop :=
  match x, y with
  | .im _ (.sc (.bool a)), .im _ (.sc (.bool b)) => k (.im none (.sc (.bool (if neg then !(a == b) else a == b)))) []
  | _, _ => False

def ceqL : List D → List D → (Bool → Prop) → Prop
  | [], [], f => f true
  | .sc (.int a m) :: ds, .sc (.int b n) :: es, f => a = b ∧ ceqL ds es fun r => f ((m == n) && r)
  | _, _, _ => False
def ceqK (neg : Bool) (x y : AV) (n : Nat) (k : KQ) : Prop :=
  match x, y with
  | .im _ (.ag ds), .im _ (.ag es) => ds.length = n ∧ ceqL ds es fun r => k (.im none (.sc (.bool (if neg then !r else r)))) []
  | _, _ => False
def snilK (neg : Bool) (x y : AV) (k : KQ) : Prop :=
  match x, y with
  | .im _ (.ls (some p) _ _), .im _ (.ls (some true) _ []) => k (.im none (.sc (.bool (if neg then !p else p)))) []
  | _, _ => False
def unK (op : UnOp) (x : AV) (k : KQ) : Prop :=
  match op, x with
  | .not, .im _ (.sc (.bool b)) => k (.im none (.sc (.bool (!b)))) []
  | .neg, .im _ (.sc (.int a n)) => k (.im none (.sc (.int a (a.wrap (-n))))) []
  | _, _ => False
def cvtK (kd : IntKind) (x : AV) (k : KQ) : Prop :=
  match x with
  | .im _ (.sc (.int _ n)) => k (.im none (.sc (.int kd (kd.wrap n)))) []
  | _ => False
def mkK (l c : AV) (d sz bytes : Nat) (z : D) (k : KQ) : Prop :=
  match l, c with
  | .im _ (.sc (.int _ m)), .im _ (.sc (.int _ n)) =>
    (0 ≤ m ∧ m ≤ n ∧ bytes * n ≤ 140737488355328 ∧ n ≤ 140737488355328 ∧ 0 < sz ∧ z.size = sz ∧ z.noPtr = true) ∧ k (.sm d 0 m.toNat) [(d, .ar true (some false) sz (List.replicate m.toNat z))]
  | _, _ => False
def slcS (s : ByteArray) (l h : AV) (k : KQ) : Prop :=
  match l, h with
  | .im _ (.sc (.int _ l)), .im _ (.sc (.int _ h)) => (0 ≤ l ∧ l ≤ h ∧ h ≤ s.size) ∧ k (.im none (.sc (.string (s.extract l.toNat h.toNat)))) []
  | _, _ => False
def slcL (t : Option Nat) (nn : Option Bool) (sz : Nat) (ds : List D) (l h : AV) (k : KQ) : Prop :=
  match l, h with
  | .im _ (.sc (.int _ l)), .im _ (.sc (.int _ h)) => (0 ≤ l ∧ l ≤ h ∧ h ≤ ds.length) ∧ k (.im t (.ls nn sz ((ds.take h.toNat).drop l.toNat))) []
  | _, _ => False
def slcR (l h : AV) (n : Nat) (k : Nat → Nat → Prop) : Prop :=
  match l, h with
  | .im _ (.sc (.int _ l)), .im _ (.sc (.int _ h)) => (0 ≤ l ∧ l ≤ h ∧ h ≤ n) ∧ k l.toNat h.toNat
  | _, _ => False
def slcM (u : Option U) (id off len sz : Nat) (lo : Bool) (l h : AV) (k : KQ) : Prop :=
  match u with
  | some (.ar _ _ usz _) => usz = sz ∧ slcR l h len fun l h => k (if lo then .ss id (off + l) (h - l) else .sm id off h) []
  | _ => False
def slcD (d : D) (id el j sz : Nat) (l : AV) (h : Option AV) (k : KQ) : Prop :=
  match d with
  | .ls _ isz ds => isz = sz ∧ slcR l (h.getD (.im none (.sc (.int .i64 ds.length)))) ds.length fun l h => k (.qs id el j sz l (h - l)) []
  | _ => False
def slcC (u : Option U) (id el j sz : Nat) (l : AV) (h : Option AV) (k : KQ) : Prop :=
  match u with
  | some (.ar true _ _ es) => slcD (D.sub (D.at es el) j 1 false) id el j sz l h k
  | _ => False
def slcK (x : AV) (ev : X → AV) (un : Nat → Option U) (sz : Nat) (lo hi : Option X) (k : KQ) : Prop :=
  match x with
  | .im t (.ls nn sz' ds) => sz = sz' ∧ slcL t nn sz ds ((lo.map ev).getD (.im none (.sc (.int .i64 0)))) ((hi.map ev).getD (.im none (.sc (.int .i64 ds.length)))) k
  | .sm id off len => slcM (un id) id off len sz lo.isSome ((lo.map ev).getD (.im none (.sc (.int .i64 0)))) ((hi.map ev).getD (.im none (.sc (.int .i64 len)))) k
  | .cw id el j 1 false => slcC (un id) id el j sz ((lo.map ev).getD (.im none (.sc (.int .i64 0)))) (hi.map ev) k
  | _ => False
def slsK (x : AV) (ev : X → AV) (lo hi : Option X) (k : KQ) : Prop :=
  match x with
  | .im _ (.sc (.string s)) => slcS s ((lo.map ev).getD (.im none (.sc (.int .i64 0)))) ((hi.map ev).getD (.im none (.sc (.int .i64 s.size)))) k
  | _ => False
def faW (u : Option U) (id el j off : Nat) (k : KQ) : Prop :=
  match u with
  | some (.ar _ _ usz _) => j + off < usz ∧ k (.pw id el (j + off)) []
  | _ => False
def faK (x : AV) (un : Nat → Option U) (off : Nat) (k : KQ) : Prop :=
  match x with
  | .im t (.pt d j) => j + off < d.size ∧ k (.im t (.pt d (j + off))) []
  | .pw id el j => faW (un id) id el j off k
  | .pq id el j isz el' j' => j' + off < isz ∧ k (.pq id el j isz el' (j' + off)) []
  | _ => False
def flW (u : Option U) (i off sz : Nat) (agg : Bool) (k : KQ) : Prop :=
  match u with
  | some (.own d) => (d.isAg = true ∧ off + sz ≤ d.size) ∧ k (.im (some i) (D.sub d off sz agg)) []
  | _ => False
def flK (x : AV) (un : Nat → Option U) (off sz : Nat) (agg : Bool) (k : KQ) : Prop :=
  match x with
  | .im t d => (d.isAg = true ∧ off + sz ≤ d.size) ∧ k (.im t (D.sub d off sz agg)) []
  | .tr i => flW (un i) i off sz agg k
  | _ => False
def iaD (q : Option (Option Nat × D)) (sz : Nat) (n : Int) (k : KQ) : Prop :=
  match q with
  | some (t, .ls _ sz' ds) => (sz = sz' ∧ 0 < sz ∧ 0 ≤ n ∧ n < ds.length) ∧ k (.im t (.pt (D.at ds n.toNat) 0)) []
  | _ => False
def iaW (u : Option U) (id sz p : Nat) (k : KQ) : Prop :=
  match u with
  | some (.ar _ _ usz _) => (sz = usz ∧ 0 < sz) ∧ k (.pw id p 0) []
  | _ => False
def iaI (id el j sz : Nat) (n : Int) (d : D) (k : KQ) : Prop :=
  match d with
  | .ls _ sz' ds => (sz = sz' ∧ 0 < sz ∧ 0 ≤ n ∧ n < ds.length) ∧ k (.pq id el j sz n.toNat 0) []
  | _ => False
def iaC (u : Option U) (id el j sz : Nat) (n : Int) (k : KQ) : Prop :=
  match u with
  | some (.ar true _ _ es) => iaI id el j sz n (D.sub (D.at es el) j 1 false) k
  | _ => False
def iaK (x i : AV) (un : Nat → Option U) (sz : Nat) (k : KQ) : Prop :=
  match i with
  | .im _ (.sc (.int _ n)) => match x with
    | .sm id off len => (0 ≤ n ∧ n < len) ∧ iaW (un id) id sz (off + n.toNat) k
    | .ss id off len => (0 ≤ n ∧ n < len) ∧ iaW (un id) id sz (off + n.toNat) k
    | .cw id el j 1 false => iaC (un id) id el j sz n k
    | x => iaD (x.den un) sz n k
  | _ => False
def ixK (x i : AV) (k : KQ) : Prop :=
  match x, i with
  | .im _ (.sc (.string s)), .im _ (.sc (.int _ n)) => (0 ≤ n ∧ n < s.size) ∧ k (.im none (.sc (.int .u8 (s.data.getD n.toNat 0).toNat))) []
  | _, _ => False
def lenD (q : Option (Option Nat × D)) (k : KQ) : Prop :=
  match q with
  | some (_, .ls _ _ ds) => k (.im none (.sc (.int .i64 ds.length))) []
  | _ => False
def slenK (x : AV) (k : KQ) : Prop :=
  match x with
  | .im _ (.sc (.string s)) => k (.im none (.sc (.int .i64 s.size))) []
  | _ => False
def lenK (x : AV) (un : Nat → Option U) (k : KQ) : Prop :=
  match x with
  | .sm _ _ len => k (.im none (.sc (.int .i64 len))) []
  | .ss _ _ len => k (.im none (.sc (.int .i64 len))) []
  | .z0 _ _ => k (.im none (.sc (.int .i64 0))) []
  | x => lenD (x.den un) k
def calvK (x : AV) (P : Program) (d : Option Nat) (args : List AV) (un : Nat → Option U) (k : KQ) : Prop :=
  match x with
  | .im _ (.sc (.func (.func f) ⟨[]⟩ ⟨[]⟩)) => callQ P d f args un k
  | .im t (.fn f ds) => callQ P d f (args ++ ds.map (.im t)) un k
  | .cl f vs => callQ P d f (args ++ vs) un k
  | _ => False
def s30K (x : AV) (sz : Nat) (k : KQ) : Prop :=
  match x with
  | .im _ (.ls nn _ _) => k (.z0 nn sz) []
  | _ => False
def extK (x : AV) (i : Nat) (k : KQ) : Prop :=
  match x with
  | .tup vs => i < vs.length ∧ k (vs.getD i .any) []
  | _ => False
def bsK (ps : List (Nat × AV)) (un : Nat → Option U) (d sz len : Nat) (k : KQ) : Prop :=
  if len = 0 then (0 < sz ∧ ps = []) ∧ k (.sm d 0 0) [(d, .ar true (some false) sz [])]
  else (ps.map (·.1) = List.range len ∧ 0 < sz ∧ len * sz ≤ 16777216 ∧ (ps.map (·.2)).all (itemOk un sz) = true) ∧ k (.vb d len) [(d, .bx sz (ps.map (·.2)))]
def bldK (ps : List (Nat × Nat × AV)) (un : Nat → Option U) (z : D) (k : KQ) : Prop :=
  match z with
  | .ag zs => (ps.all (fun p => p.2.2.size un == p.2.1 && p.2.1 != 0) = true ∧ sortedB zs.length 0 (ps.map fun p => (p.1, p.2.1)) = true ∧ z.noPtr = true) ∧ k (sgAV (fillSg zs 0 ps)) []
  | _ => False

def qOp (P : Program) (r : ROp) (ev : X → AV) (un : Nat → Option U) (k : KQ) : Prop :=
  match r with
  | .mv _ x => k (ev x) []
  | .pick _ c a b => pickK (ev c) (ev a) (ev b) k
  | .box d sz x => boxK (ev x) d sz k
  | .zer d sz z => (0 < sz ∧ z.size = sz ∧ z.noPtr = true) ∧ k (.pw d 0 0) [(d, .ar true (some false) sz [z])]
  | .ld _ agg sz a => ldK (ev a) un agg sz k
  | .nck _ x => nckK (ev x) k
  | .bin _ op x y => binK op (ev x) (ev y) k
  | .beq _ neg x y => beqK neg (ev x) (ev y) k
  | .snil _ neg x y => snilK neg (ev x) (ev y) k
  | .ceq _ neg n x y => ceqK neg (ev x) (ev y) n k
  | .un _ op x => unK op (ev x) k
  | .cvt _ kd x => cvtK kd (ev x) k
  | .mk d sz bytes z l c => mkK (ev l) (ev c) d sz bytes z k
  | .slc _ sz x lo hi => slcK (ev x) ev un sz lo hi k
  | .fa _ off x => faK (ev x) un off k
  | .fl _ off sz agg x => flK (ev x) un off sz agg k
  | .ia _ sz x i => iaK (ev x) (ev i) un sz k
  | .ix _ x i => ixK (ev x) (ev i) k
  | .len _ x => lenK (ev x) un k
  | .slen _ x => slenK (ev x) k
  | .sls _ x lo hi => slsK (ev x) ev lo hi k
  | .call d f args => callQ P d f (args.map ev) un k
  | .calv d x args => calvK (ev x) P d (args.map ev) un k
  | .ext _ x i => extK (ev x) i k
  | .bs d sz _ len ps => bsK (ps.map fun p => (p.1, ev p.2)) un d sz len k
  | .bld _ z ps => bldK (ps.map fun p => (p.1, p.2.1, ev p.2.2)) un z k
  | .mkf _ f xs => k (.cl f (xs.map ev)) []
  | .s30 _ sz x => s30K (ev x) sz k
  | .st .. | .app .. | .mcl .. | .cls .. | .cpy .. | .other .. => False

def ROp.isQ : ROp → Bool
  | .st .. | .app .. | .mcl .. | .cls .. | .cpy .. | .other .. => false
  | _ => true

def noPtrs : List D → Bool
  | [] => true
  | d :: ds => d.noPtr && noPtrs ds
abbrev KT := Bool → D → St → Prop
abbrev KL := Bool → List D → St → Prop
def takeTr (u : Option U) (i : Nat) (st : St) (k : KT) : Prop :=
  match u with
  | some (.own d) => k true d (st.del i)
  | _ => False
def takeSm (u : Option U) (i off len : Nat) (st : St) (k : KT) : Prop :=
  match u with
  | some (.ar true nn sz es) => (off = 0 ∧ len = es.length) ∧ k true (.ls nn sz es) (st.del i)
  | _ => False
def jks (sz : Nat) (agg : Bool) : D := if agg then .ag (List.replicate sz .jk) else .jk
def takeCw (u : Option U) (i el j sz : Nat) (agg : Bool) (st : St) (k : KT) : Prop :=
  match u with
  | some (.ar true nn usz es) => (agg = true → (D.at es el).isAg = true) ∧ k true (D.sub (D.at es el) j sz agg) (st.updC i el (.ar true nn usz (es.set el (D.put usz (D.at es el) j sz (jks sz agg)))))
  | _ => False
def sgC (k : KT) (b : Bool) (ds : List D) (st : St) : Prop := k b (.ag (ds.map D.cells).flatten) st
def mixB (b bq c cq : Bool) : Bool := (b || bq) && (c || cq)
def lstD (b : Bool) (d : D) (k : KL) (c : Bool) (ds : List D) (st : St) : Prop :=
  (b = true ∨ c = false ∨ noPtrs ds = true) ∧ (c = true ∨ b = false ∨ d.noPtr = true) ∧ k (mixB b d.noPtr c (noPtrs ds)) (d :: ds) st
mutual
def takeA (st : St) : AV → KT → Prop
  | .im none d, k => k d.noPtr d st
  | .im (some _) d, k => d.noPtr = true ∧ k true d st
  | .tr i, k => takeTr (st.unit i) i st k
  | .sm i off len, k => takeSm (st.unit i) i off len st k
  | .cw i el j sz agg, k => takeCw (st.unit i) i el j sz agg st k
  | .sg vs, k => takeL st vs (sgC k)
  | _, _ => False
def takeL (st : St) : List AV → KL → Prop
  | [], k => k true [] st
  | v :: vs, k => takeA st v fun b d st => takeL st vs (lstD b d k)
end
def lstC (vs : List AV) (k : KL) (b : Bool) (d : D) (st : St) : Prop := takeL st vs (lstD b d k)

def takeNL (f : St → AV → KT → Prop) : St → List AV → KL → Prop
  | st, [], k => k true [] st
  | st, v :: vs, k => f st v fun b d st => takeNL f st vs (lstD b d k)
def lsC (sz : Nat) (k : KT) (b : Bool) (ds : List D) (st : St) : Prop := (0 < sz ∧ b = true ∧ ∀ d ∈ ds, d.size = sz) ∧ k true (.ls (some false) sz ds) st
def takeBx (f : St → AV → KT → Prop) (u : Option U) (i len : Nat) (st : St) (k : KT) : Prop :=
  match u with
  | some (.bx sz items) => len = items.length ∧ takeNL f (st.del i) items (lsC sz k)
  | _ => False
def takeN : Nat → St → AV → KT → Prop
  | n + 1, st, .vb i len, k => takeBx (takeN n) (st.unit i) i len st k
  | n + 1, st, .sg vs, k => takeNL (takeN n) st vs (sgC k)
  | _, st, .im none d, k => k d.flat d st
  | _, st, v, k => takeA st v k
def lstE (f : St → AV → KT → Prop) (vs : List AV) (k : KL) (b : Bool) (d : D) (st : St) : Prop := takeNL f st vs (lstD b d k)

def takeV (u : Option U) (i len sz : Nat) (st : St) (k : KL) : Prop :=
  match u with
  | some (.bx bsz items) => (bsz = sz ∧ len = items.length) ∧ takeNL (takeN 12) (st.del i) items k
  | _ => False
def takeD (q : Option D) (sz : Nat) (st : St) (k : KL) : Prop :=
  match q with
  | some (.ls _ sz' ds) => (sz = sz' ∧ noPtrs ds = true) ∧ k true ds st
  | _ => False
def takeY (st : St) (sz : Nat) (v : AV) (k : KL) : Prop :=
  match v with
  | .vb i len => takeV (st.unit i) i len sz st k
  | .im none (.ls _ sz' ds) => sz = sz' ∧ k (noPtrs ds) ds st
  | v => takeD (v.arg st.unit) sz st k

def nnGrow (nn : Option Bool) (ds : List D) : Option Bool :=
  match ds with
  | _ :: _ => some false
  | [] => nn

def modeOf (own ow fl eq : Bool) : Bool := if own = ow then ow else if fl then ow else if eq then own else ow
def stU (u : Option U) (id el j sz : Nat) (own : Bool) (d : D) (st' : St) (f : St → Prop) : Prop :=
  match u with
  | some (.ar ow nn usz es) => (d.size = sz ∧ j + sz ≤ usz ∧ el < es.length ∧ (j = 0 ∧ sz = usz ∨ (D.at es el).isAg = true) ∧
        (own = ow ∨ d.noPtr = true ∨ noPtrs es = true)) ∧
        f (st'.upd id (.ar (modeOf own ow d.flat (noPtrs es)) nn usz (es.set el (D.put usz (D.at es el) j sz d))))
  | _ => False
def stC (id el j sz : Nat) (f : St → Prop) (own : Bool) (d : D) (st' : St) : Prop := stU (st'.unit id) id el j sz own d st' f

def inSet (es : List D) (usz el j : Nat) (d : D) : List D := es.set el (D.put usz (D.at es el) j 1 d)
def stI (nn : Option Bool) (usz : Nat) (es : List D) (id el j isz el' j' sz : Nat) (own : Bool) (d : D) (st' : St) (f : St → Prop) (q : D) : Prop :=
  match q with
  | .ls nn' sz' ds => (sz' = isz ∧ d.size = sz ∧ j' < isz ∧ j' + sz ≤ isz ∧ el < es.length ∧ el' < ds.length ∧ (j = 0 ∧ usz = 1 ∧ (D.at es el).isAg = false ∨ (D.at es el).isAg = true ∧ usz ≠ 1) ∧ (j' = 0 ∧ sz = isz ∨ (D.at ds el').isAg = true) ∧ d.noPtr = true) ∧
      f (st'.upd id (.ar true nn usz (inSet es usz el j (.ls nn' sz' (ds.set el' (D.put sz' (D.at ds el') j' sz d))))))
  | _ => False
def stQ (u : Option U) (id el j isz el' j' sz : Nat) (own : Bool) (d : D) (st' : St) (f : St → Prop) : Prop :=
  match u with
  | some (.ar true nn usz es) => stI nn usz es id el j isz el' j' sz own d st' f (D.sub (D.at es el) j 1 false)
  | _ => False
def stD (id el j isz el' j' sz : Nat) (f : St → Prop) (own : Bool) (d : D) (st' : St) : Prop := stQ (st'.unit id) id el j isz el' j' sz own d st' f
def stK (a x : AV) (st : St) (sz : Nat) (f : St → Prop) : Prop :=
  match a with
  | .pw id el j => takeN 12 st x (stC id el j sz f)
  | .pq id el j isz el' j' => takeN 12 st x (stD id el j isz el' j' sz f)
  | _ => False
def appU (u : Option U) (id off len : Nat) (own : Bool) (ds : List D) (st' : St) (d sz bytes : Nat) (f : St → Prop) : Prop :=
  match u with
  | some (.ar ow nn usz es) => (usz = sz ∧ 0 < sz ∧ off = 0 ∧ len = es.length ∧ (len + ds.length) * bytes ≤ 140737488355328 ∧ len + ds.length ≤ maxEl ∧ (∀ e ∈ ds, e.size = sz) ∧
        (own = ow ∨ noPtrs ds = true ∨ noPtrs es = true)) ∧
        f ((st'.upr id (.ar (modeOf own ow (D.flatL ds) (noPtrs es)) (nnGrow nn ds) sz (es ++ ds))).set d (.sm id 0 (len + ds.length)))
  | _ => False
def appE (own : Bool) (ds : List D) (d sz bytes : Nat) (f : St → Prop) (own' : Bool) (e : D) (st'' : St) : Prop :=
  match e with
  | .ls nn sz' es => (sz' = sz ∧ own = true ∧ own' = true ∧ (es.length + ds.length) * bytes ≤ 140737488355328 ∧ es.length + ds.length ≤ maxEl ∧ (∀ e ∈ ds, e.size = sz) ∧ 0 < sz ∧
        st''.fresh [(d, .own .jk)] = true) ∧
        f ((st''.addUs [(d, .own (.ls (nnGrow nn ds) sz (es ++ ds)))]).set d (.tr d))
  | _ => False
def appX (x : AV) (own : Bool) (ds : List D) (st' : St) (d sz bytes : Nat) (f : St → Prop) : Prop :=
  match x with
  | .im _ (.ls (some true) _ []) => (ds.length * bytes ≤ 140737488355328 ∧ ds.length ≤ maxEl ∧ 0 < sz ∧ (∀ e ∈ ds, e.size = sz) ∧ st'.fresh [(d, .own .jk)] = true) ∧
      f ((st'.addUs [(d, .ar own (nnGrow (some true) ds) sz ds)]).set d (.sm d 0 ds.length))
  | .sm id off len => appU (st'.unit id) id off len own ds st' d sz bytes f
  | .z0 nn _ => (ds.length * bytes ≤ 140737488355328 ∧ ds.length ≤ maxEl ∧ 0 < sz ∧ own = true ∧ (∀ e ∈ ds, e.size = sz) ∧ st'.fresh [(d, .own .jk)] = true) ∧
      f ((st'.addUs [(d, .own (.ls (nnGrow nn ds) sz ds))]).set d (.tr d))
  | x => takeA st' x (appE own ds d sz bytes f)
def appC (x : X) (d sz bytes : Nat) (f : St → Prop) (own : Bool) (ds : List D) (st' : St) : Prop := appX (st'.ev x) own ds st' d sz bytes f

def AFM (P : Program) (f : Nat) (d : D) (n : Int) (d' : D) (n' : Int) : Prop := Callable P f ∧
  ∀ (w : World) (v : Value) (F : List Nat), Rep w.heap d F v.cells.toList → d.fits v → F.Nodup → (∀ b ∈ F, Unf w.heap b) →
    Calls P f #[v, .int .i64 n] w fun e w' => e = .returned (.int .i64 n') ∧ w'.os = w.os ∧ w'.tape = w.tape ∧ w'.output = w.output ∧ w.heap.size ≤ w'.heap.size ∧
      (∀ b, b < w.heap.size → b ∉ F → w'.heap[b]? = w.heap[b]?) ∧ ∃ F', Rep w'.heap d' F' v.cells.toList ∧ F'.Nodup ∧ ∀ b ∈ F', b ∈ F ∧ Unf w'.heap b
def mclT (u : Option U) (P : Program) (d f i : Nat) (n : Int) (st : St) (k : St → Prop) : Prop :=
  match u with
  | some (.own e) => ∃ e' n', AFM P f e n e' n' ∧ e'.isAg = e.isAg ∧ k ((st.upd i (.own e')).set d (.im none (.sc (.int .i64 n'))))
  | _ => False
def mclC (u : Option U) (P : Program) (d f i el j sz : Nat) (agg : Bool) (n : Int) (st : St) (k : St → Prop) : Prop :=
  match u with
  | some (.ar true nn usz es) => ∃ e' n', AFM P f (D.sub (D.at es el) j sz agg) n e' n' ∧ (e'.size = sz ∧ (agg = true → (D.at es el).isAg = true) ∧ e'.isAg = agg) ∧
      k ((st.upd i (.ar true nn usz (es.set el (D.put usz (D.at es el) j sz e')))).set d (.im none (.sc (.int .i64 n'))))
  | _ => False
def mclX (x : AV) (P : Program) (d f : Nat) (n : Int) (st : St) (k : St → Prop) : Prop :=
  match x with
  | .tr i => mclT (st.unit i) P d f i n st k
  | .cw i el j sz agg => mclC (st.unit i) P d f i el j sz agg n st k
  | .im _ e => e.noPtr = true ∧ ∃ e' n', AFM P f e n e' n' ∧ k (st.set d (.im none (.sc (.int .i64 n'))))
  | _ => False
def mclK (x y : AV) (P : Program) (d f : Nat) (st : St) (k : St → Prop) : Prop :=
  match y with
  | .im _ (.sc (.int .i64 n)) => mclX x P d f n st k
  | _ => False

def clsU (u : Option U) (P : Program) (d f i el j : Nat) (ys : List AV) (st : St) (k : KQ) : Prop :=
  match u with
  | some (.ar false _ _ es) => ys.all AV.shared = true ∧ ∃ ds fs r, argsOf st.unit ys = some ds ∧ D.LeL (.pt (D.at es el) j :: ds) fs ∧ AF P f fs r ∧ (let b := bindR d true r; k b.1 b.2)
  | _ => False

def spl (es : List D) (off n : Nat) (ds : List D) : List D := es.take off ++ (ds.take n ++ es.drop (off + n))
def cpyU (u : Option U) (id off len sz : Nat) (ds : List D) (st : St) (f : Nat → St → Prop) : Prop :=
  match u with
  | some (.ar true nn usz es) => (usz = sz ∧ off + len ≤ es.length) ∧ f (min len ds.length) (st.upd id (.ar true nn usz (spl es off (min len ds.length) ds)))
  | _ => False
def cpyJ (nn : Option Bool) (usz : Nat) (es : List D) (id el j off : Nat) (len : Option Nat) (sz : Nat) (ds : List D) (st : St) (f : Nat → St → Prop) (q : D) : Prop :=
  match q with
  | .ls nn' sz' ds' => (sz' = sz ∧ el < es.length ∧ (j = 0 ∧ usz = 1 ∧ (D.at es el).isAg = false ∨ (D.at es el).isAg = true ∧ usz ≠ 1)) ∧
      f (min (len.getD ds'.length) ds.length) (st.upd id (.ar true nn usz (inSet es usz el j (.ls nn' sz' (spl ds' off (min (len.getD ds'.length) ds.length) ds)))))
  | _ => False
def cpyI (u : Option U) (id el j off : Nat) (len : Option Nat) (sz : Nat) (ds : List D) (st : St) (f : Nat → St → Prop) : Prop :=
  match u with
  | some (.ar true nn usz es) => cpyJ nn usz es id el j off len sz ds st f (D.sub (D.at es el) j 1 false)
  | _ => False
def cpyD (x : AV) (sz : Nat) (ds : List D) (st : St) (f : Nat → St → Prop) : Prop :=
  match x with
  | .sm id off len => cpyU (st.unit id) id off len sz ds st f
  | .cw id el j 1 false => cpyI (st.unit id) id el j 0 none sz ds st f
  | .qs id el j isz off len => isz = sz ∧ cpyI (st.unit id) id el j off (some len) sz ds st f
  | _ => False
def cpyS (q : Option D) (x : AV) (sz : Nat) (st : St) (f : Nat → St → Prop) : Prop :=
  match q with
  | some (.ls _ sz' ds) => (sz' = sz ∧ 0 < sz ∧ noPtrs ds = true) ∧ cpyD x sz ds st f
  | _ => False
def cpyK (x y : AV) (d : Option Nat) (sz : Nat) (st : St) (f : St → Prop) : Prop := cpyS (y.arg st.unit) x sz st fun n st' => f (st'.setO d (.im none (.sc (.int .i64 n))))
def eOp (P : Program) (r : ROp) (st : St) (f : St → Prop) : Prop :=
  match r with
  | .mcl d g x y => mclK (st.ev x) (st.ev y) P d g st f
  | .st sz a x => stK (st.ev a) (st.ev x) st sz f
  | .app d sz bytes x y => takeY st sz (st.ev y) (appC x d sz bytes f)
  | _ => False

def kq (f : St → Prop) (st : St) (d : Option Nat) (v : AV) : List (Nat × U) → Prop
  | [] => f (st.setO d v)
  | us => st.fresh us = true ∧ f ((st.addUs us).setO d v)

def clsK (x : AV) (P : Program) (d f : Nat) (ys : List AV) (st : St) (k : St → Prop) : Prop :=
  match x with
  | .pw i el j => clsU (st.unit i) P d f i el j ys st (kq k (st.del i) (some d))
  | _ => False
def eOp2 (P : Program) (r : ROp) (st : St) (f : St → Prop) : Prop :=
  match r with
  | .cls d g x ys => clsK (st.ev x) P d g (ys.map st.ev) st f
  | .cpy d sz x y => cpyK (st.ev x) (st.ev y) d sz st f
  | r => eOp P r st f

def vcOp (P : Program) (r : ROp) (st : St) (f : St → Prop) : Prop :=
  if r.isQ then qOp P r st.ev st.unit (kq f st r.dst) else eOp2 P r st f

def grdK (g : AV) (b : Bool) (p q : Prop) : Prop :=
  match g with
  | .im _ (.sc (.bool c)) => (c = b → p) ∧ (c = !b → q)
  | .tup [] => q
  | _ => False

def vcOps (P : Program) : List RO → St → (Exit → St → Prop) → Prop
  | [], st, K => K .normal st
  | ⟨none, r⟩ :: rest, st, K => vcOp P r st fun st => vcOps P rest st K
  | ⟨some (t, b), r⟩ :: rest, st, K => grdK (st.get t) b (vcOp P r st fun st => vcOps P rest st K) (vcOps P rest (st.setO r.dst (.tup [])) K)

def kC (s : St) (d : Nat) (v : AV) (us : List (Nat × U)) : Prop := v = s.get d ∧ us = []
def chkOp (P : Program) (r : ROp) (s : St) : Prop := match r.dst with | some d => qOp P r s.ev s.unit (kC s d) | none => True
def chkAll (P : Program) : List ROp → St → Prop
  | [], _ => True
  | c :: cs, s => chkOp P c s ∧ chkAll P cs s
def vcEs (P : Program) : List (List ROp × RO) → St → (Exit → St → Prop) → Prop
  | [], s, K => K .normal s
  | (cs, r) :: l, s, K => chkAll P cs s ∧ vcOps P [r] s (fun _ s' => vcEs P l s' K)
def kE (P : Program) (l : List (List ROp × RO)) (K : Exit → St → Prop) (_ : Exit) (s : St) : Prop := vcEs P l s K

def Ent (st st' : St) : Prop := ∀ n0 S0 M0 w0 a w, Sat n0 S0 M0 w0 st a w → Sat n0 S0 M0 w0 st' a w

def kseq (f : St → Prop) (K : Exit → St → Prop) (e : Exit) (st : St) : Prop :=
  match e with
  | .normal => f st
  | e => K e st
def kblk (id : Nat) (K : Exit → St → Prop) (e : Exit) (st : St) : Prop :=
  match e with
  | .exit i => if i = id then K .normal st else K (.exit i) st
  | e => K e st
def condK (c : AV) (p q : Prop) : Prop :=
  match c with
  | .im _ (.sc (.bool t)) => (t = true → p) ∧ (t = false → q)
  | _ => False
def vcR (P : Program) : RC → St → (Exit → St → Prop) → Prop
  | .skip, st, K => K .normal st
  | .reg _ ops, st, K => vcOps P ops st K
  | .regL N E, st, K => vcOps P N st (kE P E K)
  | .seq a b, st, K => vcR P a st (kseq (fun st => vcR P b st K) K)
  | .cond x a b, st, K => condK (st.ev x) (vcR P a st K) (vcR P b st K)
  | .blk id c, st, K => vcR P c st (kblk id K)
  | .loop c, st, K => ∃ (I : Nat → St → Prop), (∃ n s, Ent st s ∧ I n s) ∧ ∀ n s, I n s → vcR P c s (kseq (fun s' => ∃ n' s'', Ent s' s'' ∧ I n' s'' ∧ n' < n) K)
  | .exit id, st, K => K (.exit id) st
  | .ret, st, K => K .ret st
  | .other _, _, _ => False

def kops (P : Program) (rest : List RO) (K : Exit → St → Prop) (st : St) : Prop := vcOps P rest st K
def kR (P : Program) (c : RC) (K : Exit → St → Prop) (st : St) : Prop := vcR P c st K

end Go.Ax
namespace Go.Ax

section
variable {P : Program} {st : St} {K : Exit → St → Prop} {n : Nat} {env : List (Nat × AV)} {us : List (Nat × U)}

@[congr] theorem vcR_cg {c : RC} {st st' : St} (h : st = st') : vcR P c st K = vcR P c st' K := by rw [h]
@[congr] theorem vcOps_cg {l : List RO} {st st' : St} (h : st = st') : vcOps P l st K = vcOps P l st' K := by rw [h]
@[congr] theorem kops_cg {l : List RO} {st st' : St} (h : st = st') : kops P l K st = kops P l K st' := by rw [h]
@[congr] theorem kR_cg {c : RC} {st st' : St} (h : st = st') : kR P c K st = kR P c K st' := by rw [h]
@[congr] theorem kseq_cg {f : St → Prop} {e e' : Exit} {st st' : St} (h : e = e') (h' : st = st') : kseq f K e st = kseq f K e' st' := by rw [h, h']
@[congr] theorem kblk_cg {i : Nat} {e e' : Exit} {st st' : St} (h : e = e') (h' : st = st') : kblk i K e st = kblk i K e' st' := by rw [h, h']
@[congr] theorem kq_cg {f : St → Prop} {st st' : St} {d : Option Nat} {v v' : AV} {us us' : List (Nat × U)} (h : st = st') (hv : v = v') (hu : us = us') : kq f st d v us = kq f st' d v' us' := by rw [h, hv, hu]
@[congr] theorem condK_cg {c c' : AV} {p q : Prop} (h : c = c') : condK c p q = condK c' p q := by rw [h]
@[congr] theorem grdK_cg {c c' : AV} {b : Bool} {p q : Prop} (h : c = c') : grdK c b p q = grdK c' b p q := by rw [h]

@[go_sem ↓] theorem vcR_skip : vcR P .skip st K = K .normal st := rfl
@[go_sem ↓] theorem vcR_reg {b : Bool} {ops : List RO} : vcR P (.reg b ops) st K = vcOps P ops st K := rfl
@[congr] theorem vcEs_cg {l : List (List ROp × RO)} {st st' : St} (h : st = st') : vcEs P l st K = vcEs P l st' K := by rw [h]
@[congr] theorem kE_cg {l : List (List ROp × RO)} {e : Exit} {st st' : St} (h : st = st') : kE P l K e st = kE P l K e st' := by rw [h]
@[congr] theorem chkAll_cg {l : List ROp} {st st' : St} (h : st = st') : chkAll P l st = chkAll P l st' := by rw [h]
@[congr] theorem kC_cg {st st' : St} {d : Nat} {v v' : AV} {us : List (Nat × U)} (h : st = st') (hv : v = v') : kC st d v us = kC st' d v' us := by rw [h, hv]
@[go_sem ↓] theorem vcR_regL {N : List RO} {E : List (List ROp × RO)} : vcR P (.regL N E) st K = vcOps P N st (kE P E K) := rfl
@[go_sem ↓] theorem kE_ap {l : List (List ROp × RO)} {e : Exit} : kE P l K e st = vcEs P l st K := rfl
@[go_sem ↓] theorem vcEs_nil : vcEs P [] st K = K .normal st := rfl
@[go_sem ↓] theorem vcEs_cons {cs : List ROp} {r : RO} {l : List (List ROp × RO)} : vcEs P ((cs, r) :: l) st K = (chkAll P cs st ∧ vcOps P [r] st (kE P l K)) := rfl
@[go_sem ↓] theorem chkAll_nil : chkAll P [] st = True := rfl
@[go_sem ↓] theorem chkAll_cons {c : ROp} {cs : List ROp} : chkAll P (c :: cs) st = (chkOp P c st ∧ chkAll P cs st) := rfl
@[go_sem] theorem kC_nil {d : Nat} {v : AV} : kC st d v [] = (v = st.get d) := by simp [kC]
@[go_sem ↓] theorem chk_mv {d : Nat} {x : X} : chkOp P (.mv d x) st = kC st d (st.ev x) [] := rfl
@[go_sem ↓] theorem chk_ld {d sz : Nat} {agg : Bool} {a : X} : chkOp P (.ld d agg sz a) st = ldK (st.ev a) st.unit agg sz (kC st d) := rfl
@[go_sem ↓] theorem chk_fa {d off : Nat} {x : X} : chkOp P (.fa d off x) st = faK (st.ev x) st.unit off (kC st d) := rfl
@[go_sem ↓] theorem chk_fl {d off sz : Nat} {agg : Bool} {x : X} : chkOp P (.fl d off sz agg x) st = flK (st.ev x) st.unit off sz agg (kC st d) := rfl
@[go_sem ↓] theorem chk_ia {d sz : Nat} {x i : X} : chkOp P (.ia d sz x i) st = iaK (st.ev x) (st.ev i) st.unit sz (kC st d) := rfl
@[go_sem ↓] theorem chk_len {d : Nat} {x : X} : chkOp P (.len d x) st = lenK (st.ev x) st.unit (kC st d) := rfl
@[go_sem ↓] theorem chk_nck {d : Nat} {x : X} : chkOp P (.nck d x) st = nckK (st.ev x) (kC st d) := rfl
@[go_sem ↓] theorem chk_ext {d i : Nat} {x : X} : chkOp P (.ext d x i) st = extK (st.ev x) i (kC st d) := rfl
@[go_sem ↓] theorem vcR_seq {a b : RC} : vcR P (.seq a b) st K = vcR P a st (kseq (kR P b K) K) := rfl
@[go_sem ↓] theorem vcR_cond {x : X} {a b : RC} : vcR P (.cond x a b) st K = condK (st.ev x) (vcR P a st K) (vcR P b st K) := rfl
@[go_sem ↓] theorem vcR_blk {i : Nat} {c : RC} : vcR P (.blk i c) st K = vcR P c st (kblk i K) := rfl
@[go_sem ↓] theorem vcR_exit {i : Nat} : vcR P (.exit i) st K = K (.exit i) st := rfl
@[go_sem ↓] theorem vcR_ret : vcR P .ret st K = K .ret st := rfl
@[go_sem ↓] theorem kR_ap {c : RC} : kR P c K st = vcR P c st K := rfl
@[go_sem ↓] theorem kops_ap {l : List RO} : kops P l K st = vcOps P l st K := rfl
@[go_sem ↓] theorem kseq_normal {f : St → Prop} : kseq f K .normal st = f st := rfl
@[go_sem ↓] theorem kseq_ret {f : St → Prop} : kseq f K .ret st = K .ret st := rfl
@[go_sem ↓] theorem kseq_exit {f : St → Prop} {i : Nat} : kseq f K (.exit i) st = K (.exit i) st := rfl
@[go_sem ↓] theorem kblk_normal {i : Nat} : kblk i K .normal st = K .normal st := rfl
@[go_sem ↓] theorem kblk_ret {i : Nat} : kblk i K .ret st = K .ret st := rfl
@[go_sem] theorem kblk_exit {i j : Nat} : kblk i K (.exit j) st = if j = i then K .normal st else K (.exit j) st := rfl
@[go_sem] theorem condK_b {t : Option Nat} {b : Bool} {p q : Prop} : condK (.im t (.sc (.bool b))) p q = ((b = true → p) ∧ (b = false → q)) := rfl
@[go_sem] theorem grdK_u {b : Bool} {p q : Prop} : grdK (.tup []) b p q = q := rfl
@[go_sem] theorem grdK_b {t : Option Nat} {c b : Bool} {p q : Prop} : grdK (.im t (.sc (.bool c))) b p q = ((c = b → p) ∧ (c = !b → q)) := rfl
@[go_sem ↓] theorem vcOps_nil : vcOps P [] st K = K .normal st := rfl
@[go_sem] theorem vcOps_grd {t : Nat} {b : Bool} {r : ROp} {l : List RO} : vcOps P (⟨some (t, b), r⟩ :: l) st K = grdK (st.get t) b (vcOps P (⟨none, r⟩ :: l) st K) (vcOps P l (st.setO r.dst (.tup [])) K) := rfl

@[go_sem] theorem kq_nil {f : St → Prop} {d : Option Nat} {v : AV} : kq f st d v [] = f (st.setO d v) := rfl
@[go_sem] theorem kq_cons {f : St → Prop} {d : Option Nat} {v : AV} {x : Nat × U} {us : List (Nat × U)} : kq f st d v (x :: us) = (st.fresh (x :: us) = true ∧ f ((st.addUs (x :: us)).setO d v)) := rfl
@[go_sem] theorem setO_some {d : Nat} {v : AV} : St.setO ⟨n, env, us⟩ (some d) v = ⟨n, (d, v) :: env, us⟩ := rfl
@[go_sem] theorem setO_none {v : AV} : St.setO ⟨n, env, us⟩ none v = ⟨n, env, us⟩ := rfl
@[go_sem] theorem set_lit {d : Nat} {v : AV} : St.set ⟨n, env, us⟩ d v = ⟨n, (d, v) :: env, us⟩ := rfl
@[go_sem] theorem addUs_lit {vs : List (Nat × U)} : St.addUs ⟨n, env, us⟩ vs = ⟨n, env, vs ++ us⟩ := rfl
@[go_sem] theorem ev_t {i : Nat} : St.ev ⟨n, env, us⟩ (.t i) = lk env i := rfl
@[go_sem] theorem ev_c {d : D} : st.ev (.c d) = litAV d := rfl
@[go_sem] theorem get_lit {i : Nat} : St.get ⟨n, env, us⟩ i = lk env i := rfl
@[go_sem] theorem unit_lit {i : Nat} : St.unit ⟨n, env, us⟩ i = lu us i := rfl
@[go_sem] theorem lk_cons {k t : Nat} {v : AV} {r : List (Nat × AV)} : lk ((k, v) :: r) t = if k = t then v else lk r t := rfl
@[go_sem] theorem lk_nil {t : Nat} : lk [] t = .any := rfl
@[go_sem] theorem lu_cons {k t : Nat} {v : U} {r : List (Nat × U)} : lu ((k, v) :: r) t = if k = t then some v else lu r t := rfl
@[go_sem] theorem lu_nil {t : Nat} : lu [] t = none := rfl
attribute [go_sem] killE killU killL U.kill AV.refs AV.refsL AV.soft AV.softL AV.softC noU
@[go_sem] theorem del_lit {k : Nat} : St.del ⟨n, env, us⟩ k = ⟨n, killE (AV.refs k) env, killU k (AV.refs k) us⟩ := rfl
@[go_sem] theorem updC_lit {k el : Nat} {u : U} : St.updC ⟨n, env, us⟩ k el u = ⟨n, killE (AV.softC k el) env, (k, u) :: killU k (AV.softC k el) us⟩ := rfl
@[go_sem] theorem upd_lit {k : Nat} {u : U} : St.upd ⟨n, env, us⟩ k u = ⟨n, killE (AV.soft k) env, (k, u) :: killU k (AV.soft k) us⟩ := rfl
@[go_sem] theorem upr_lit {k : Nat} {u : U} : St.upr ⟨n, env, us⟩ k u = ⟨n, killE (AV.refs k) env, (k, u) :: killU k (AV.refs k) us⟩ := rfl
@[go_sem] theorem fresh_nil : st.fresh [] = true := rfl
@[go_sem] theorem fresh_cons {x : Nat × U} {r : List (Nat × U)} : St.fresh ⟨n, env, us⟩ (x :: r) = (noU x.1 us && noU x.1 r && St.fresh ⟨n, env, us⟩ r) := rfl
@[go_sem ↓] theorem vcOps_mv {d : Nat} {x : X} {l : List RO} : vcOps P (⟨none, .mv d x⟩ :: l) st K = kq (kops P l K) st (some d) (st.ev x) [] := rfl
@[go_sem ↓] theorem vcOps_pick {d : Nat} {c a b : X} {l : List RO} : vcOps P (⟨none, .pick d c a b⟩ :: l) st K = pickK (st.ev c) (st.ev a) (st.ev b) (kq (kops P l K) st (some d)) := rfl
@[go_sem ↓] theorem vcOps_box {d sz : Nat} {x : X} {l : List RO} : vcOps P (⟨none, .box d sz x⟩ :: l) st K = boxK (st.ev x) d sz (kq (kops P l K) st (some d)) := rfl
@[go_sem ↓] theorem vcOps_zer {d sz : Nat} {z : D} {l : List RO} : vcOps P (⟨none, .zer d sz z⟩ :: l) st K = ((0 < sz ∧ z.size = sz ∧ z.noPtr = true) ∧ kq (kops P l K) st (some d) (.pw d 0 0) [(d, .ar true (some false) sz [z])]) := rfl
@[go_sem ↓] theorem vcOps_ld {d sz : Nat} {g : Bool} {a : X} {l : List RO} : vcOps P (⟨none, .ld d g sz a⟩ :: l) st K = ldK (st.ev a) st.unit g sz (kq (kops P l K) st (some d)) := rfl
@[go_sem ↓] theorem vcOps_nck {d : Nat} {x : X} {l : List RO} : vcOps P (⟨none, .nck d x⟩ :: l) st K = nckK (st.ev x) (kq (kops P l K) st (some d)) := rfl
@[go_sem ↓] theorem vcOps_bin {d : Nat} {op : BinOp} {x y : X} {l : List RO} : vcOps P (⟨none, .bin d op x y⟩ :: l) st K = binK op (st.ev x) (st.ev y) (kq (kops P l K) st (some d)) := rfl
@[go_sem ↓] theorem vcOps_beq {d : Nat} {neg : Bool} {x y : X} {l : List RO} : vcOps P (⟨none, .beq d neg x y⟩ :: l) st K = beqK neg (st.ev x) (st.ev y) (kq (kops P l K) st (some d)) := rfl
@[go_sem ↓] theorem vcOps_snil {d : Nat} {neg : Bool} {x y : X} {l : List RO} : vcOps P (⟨none, .snil d neg x y⟩ :: l) st K = snilK neg (st.ev x) (st.ev y) (kq (kops P l K) st (some d)) := rfl
@[go_sem ↓] theorem vcOps_ceq {d n : Nat} {neg : Bool} {x y : X} {l : List RO} : vcOps P (⟨none, .ceq d neg n x y⟩ :: l) st K = ceqK neg (st.ev x) (st.ev y) n (kq (kops P l K) st (some d)) := rfl
@[go_sem ↓] theorem vcOps_un {d : Nat} {op : UnOp} {x : X} {l : List RO} : vcOps P (⟨none, .un d op x⟩ :: l) st K = unK op (st.ev x) (kq (kops P l K) st (some d)) := rfl
@[go_sem ↓] theorem vcOps_cvt {d : Nat} {kd : IntKind} {x : X} {l : List RO} : vcOps P (⟨none, .cvt d kd x⟩ :: l) st K = cvtK kd (st.ev x) (kq (kops P l K) st (some d)) := rfl
@[go_sem ↓] theorem vcOps_mk {d sz bytes : Nat} {z : D} {q c : X} {l : List RO} : vcOps P (⟨none, .mk d sz bytes z q c⟩ :: l) st K = mkK (st.ev q) (st.ev c) d sz bytes z (kq (kops P l K) st (some d)) := rfl
@[go_sem ↓] theorem vcOps_slc {d sz : Nat} {x : X} {lo hi : Option X} {l : List RO} : vcOps P (⟨none, .slc d sz x lo hi⟩ :: l) st K = slcK (st.ev x) st.ev st.unit sz lo hi (kq (kops P l K) st (some d)) := rfl
@[go_sem ↓] theorem vcOps_fa {d off : Nat} {x : X} {l : List RO} : vcOps P (⟨none, .fa d off x⟩ :: l) st K = faK (st.ev x) st.unit off (kq (kops P l K) st (some d)) := rfl
@[go_sem ↓] theorem vcOps_fl {d off sz : Nat} {g : Bool} {x : X} {l : List RO} : vcOps P (⟨none, .fl d off sz g x⟩ :: l) st K = flK (st.ev x) st.unit off sz g (kq (kops P l K) st (some d)) := rfl
@[go_sem ↓] theorem vcOps_mkf {d f : Nat} {xs : List X} {l : List RO} : vcOps P (⟨none, .mkf d f xs⟩ :: l) st K = kq (kops P l K) st (some d) (.cl f (xs.map st.ev)) [] := rfl
@[go_sem ↓] theorem vcOps_s30 {d sz : Nat} {x : X} {l : List RO} : vcOps P (⟨none, .s30 d sz x⟩ :: l) st K = s30K (st.ev x) sz (kq (kops P l K) st (some d)) := rfl
@[go_sem ↓] theorem vcOps_cpy {d : Option Nat} {sz : Nat} {x y : X} {l : List RO} : vcOps P (⟨none, .cpy d sz x y⟩ :: l) st K = cpyK (st.ev x) (st.ev y) d sz st (kops P l K) := rfl
@[go_sem ↓] theorem vcOps_ia {d sz : Nat} {x i : X} {l : List RO} : vcOps P (⟨none, .ia d sz x i⟩ :: l) st K = iaK (st.ev x) (st.ev i) st.unit sz (kq (kops P l K) st (some d)) := rfl
@[go_sem ↓] theorem vcOps_ix {d : Nat} {x i : X} {l : List RO} : vcOps P (⟨none, .ix d x i⟩ :: l) st K = ixK (st.ev x) (st.ev i) (kq (kops P l K) st (some d)) := rfl
@[go_sem ↓] theorem vcOps_len {d : Nat} {x : X} {l : List RO} : vcOps P (⟨none, .len d x⟩ :: l) st K = lenK (st.ev x) st.unit (kq (kops P l K) st (some d)) := rfl
@[go_sem ↓] theorem vcOps_slen {d : Nat} {x : X} {l : List RO} : vcOps P (⟨none, .slen d x⟩ :: l) st K = slenK (st.ev x) (kq (kops P l K) st (some d)) := rfl
@[go_sem ↓] theorem vcOps_sls {d : Nat} {x : X} {lo hi : Option X} {l : List RO} : vcOps P (⟨none, .sls d x lo hi⟩ :: l) st K = slsK (st.ev x) st.ev lo hi (kq (kops P l K) st (some d)) := rfl
@[go_sem ↓] theorem vcOps_call {d : Option Nat} {f : Nat} {args : List X} {l : List RO} : vcOps P (⟨none, .call d f args⟩ :: l) st K = callQ P d f (args.map st.ev) st.unit (kq (kops P l K) st d) := rfl
@[go_sem ↓] theorem vcOps_calv {d : Option Nat} {x : X} {args : List X} {l : List RO} : vcOps P (⟨none, .calv d x args⟩ :: l) st K = calvK (st.ev x) P d (args.map st.ev) st.unit (kq (kops P l K) st d) := rfl
@[go_sem ↓] theorem vcOps_ext {d i : Nat} {x : X} {l : List RO} : vcOps P (⟨none, .ext d x i⟩ :: l) st K = extK (st.ev x) i (kq (kops P l K) st (some d)) := rfl
@[go_sem ↓] theorem vcOps_bs {d sz len : Nat} {z : D} {ps : List (Nat × X)} {l : List RO} : vcOps P (⟨none, .bs d sz z len ps⟩ :: l) st K = bsK (ps.map fun p => (p.1, st.ev p.2)) st.unit d sz len (kq (kops P l K) st (some d)) := rfl
@[go_sem ↓] theorem vcOps_bld {d : Nat} {z : D} {ps : List (Nat × Nat × X)} {l : List RO} : vcOps P (⟨none, .bld d z ps⟩ :: l) st K = bldK (ps.map fun p => (p.1, p.2.1, st.ev p.2.2)) st.unit z (kq (kops P l K) st (some d)) := rfl
@[go_sem ↓] theorem vcOps_app {d sz bytes : Nat} {x y : X} {l : List RO} : vcOps P (⟨none, .app d sz bytes x y⟩ :: l) st K = takeY st sz (st.ev y) (appC x d sz bytes (kops P l K)) := rfl
@[go_sem ↓] theorem vcOps_mcl {d g : Nat} {x y : X} {l : List RO} : vcOps P (⟨none, .mcl d g x y⟩ :: l) st K = mclK (st.ev x) (st.ev y) P d g st (kops P l K) := rfl
@[congr] theorem mclK_cg {x x' y y' : AV} {d g : Nat} {st st' : St} {k : St → Prop} (h1 : x = x') (h2 : y = y') (h3 : st = st') : mclK x y P d g st k = mclK x' y' P d g st' k := by rw [h1, h2, h3]
@[congr] theorem mclX_cg {x x' : AV} {d g : Nat} {n : Int} {st : St} {k : St → Prop} (h1 : x = x') : mclX x P d g n st k = mclX x' P d g n st k := by rw [h1]
@[congr] theorem mclT_cg {u u' : Option U} {d g i : Nat} {n : Int} {st : St} {k : St → Prop} (h1 : u = u') : mclT u P d g i n st k = mclT u' P d g i n st k := by rw [h1]
@[congr] theorem mclC_cg {u u' : Option U} {d g i el j sz : Nat} {agg : Bool} {n : Int} {st : St} {k : St → Prop} (h1 : u = u') : mclC u P d g i el j sz agg n st k = mclC u' P d g i el j sz agg n st k := by rw [h1]
@[go_sem] theorem mclK_a {x : AV} {t : Option Nat} {n : Int} {d g : Nat} {st : St} {k : St → Prop} : mclK x (.im t (.sc (.int .i64 n))) P d g st k = mclX x P d g n st k := rfl
@[go_sem] theorem mclX_tr {i d g : Nat} {n : Int} {st : St} {k : St → Prop} : mclX (.tr i) P d g n st k = mclT (st.unit i) P d g i n st k := rfl
@[go_sem] theorem mclX_cw {i el j sz d g : Nat} {agg : Bool} {n : Int} {st : St} {k : St → Prop} : mclX (.cw i el j sz agg) P d g n st k = mclC (st.unit i) P d g i el j sz agg n st k := rfl
@[go_sem ↓] theorem vcOps_cls {d g : Nat} {x : X} {ys : List X} {l : List RO} : vcOps P (⟨none, .cls d g x ys⟩ :: l) st K = clsK (st.ev x) P d g (ys.map st.ev) st (kops P l K) := rfl
@[congr] theorem clsK_cg {x x' : AV} {ys ys' : List AV} {d g : Nat} {st st' : St} {k : St → Prop} (h1 : x = x') (h2 : ys = ys') (h3 : st = st') : clsK x P d g ys st k = clsK x' P d g ys' st' k := by rw [h1, h2, h3]
@[congr] theorem clsU_cg {u u' : Option U} {ys : List AV} {d g i el j : Nat} {st : St} {k : KQ} (h1 : u = u') : clsU u P d g i el j ys st k = clsU u' P d g i el j ys st k := by rw [h1]
@[go_sem] theorem clsK_pw {i el j d g : Nat} {ys : List AV} {st : St} {k : St → Prop} : clsK (.pw i el j) P d g ys st k = clsU (st.unit i) P d g i el j ys st (kq k (st.del i) (some d)) := rfl
@[go_sem ↓] theorem vcOps_st {sz : Nat} {a x : X} {l : List RO} : vcOps P (⟨none, .st sz a x⟩ :: l) st K = stK (st.ev a) (st.ev x) st sz (kops P l K) := rfl
@[congr] theorem pickK_cg  {c c' : AV} {a a' : AV} {b b' : AV} {k : KQ} (h0 : c = c') (h1 : a = a') (h2 : b = b') : pickK c a b k = pickK c' a' b' k := by rw [h0, h1, h2]
@[congr] theorem boxK_cg  {x x' : AV} {d : Nat} {sz : Nat} {k : KQ} (h0 : x = x') : boxK x d sz k = boxK x' d sz k := by rw [h0]
@[congr] theorem ldW_cg  {u u' : Option U} {id : Nat} {el : Nat} {j : Nat} {agg : Bool} {sz : Nat} {k : KQ} (h0 : u = u') : ldW u id el j agg sz k = ldW u' id el j agg sz k := by rw [h0]
@[congr] theorem ldK_cg  {a a' : AV} {un : Nat → Option U} {agg : Bool} {sz : Nat} {k : KQ} (h0 : a = a') : ldK a un agg sz k = ldK a' un agg sz k := by rw [h0]
@[congr] theorem nckK_cg  {x x' : AV} {k : KQ} (h0 : x = x') : nckK x k = nckK x' k := by rw [h0]
@[congr] theorem binK_cg {op : BinOp} {x x' : AV} {y y' : AV} {k : KQ} (h0 : x = x') (h1 : y = y') : binK op x y k = binK op x' y' k := by rw [h0, h1]
@[congr] theorem beqK_cg {neg : Bool} {x x' y y' : AV} {k : KQ} (h0 : x = x') (h1 : y = y') : beqK neg x y k = beqK neg x' y' k := by rw [h0, h1]
@[congr] theorem snilK_cg {neg : Bool} {x x' y y' : AV} {k : KQ} (h0 : x = x') (h1 : y = y') : snilK neg x y k = snilK neg x' y' k := by rw [h0, h1]
@[congr] theorem ceqK_cg {neg : Bool} {x x' y y' : AV} {n : Nat} {k : KQ} (h0 : x = x') (h1 : y = y') : ceqK neg x y n k = ceqK neg x' y' n k := by rw [h0, h1]
@[go_sem] theorem beqK_b {neg : Bool} {t u : Option Nat} {p q : Bool} {k : KQ} : beqK neg (.im t (.sc (.bool p))) (.im u (.sc (.bool q))) k = k (.im none (.sc (.bool (if neg then !(p == q) else p == q)))) [] := rfl
@[go_sem] theorem snilK_l {neg : Bool} {t u : Option Nat} {p : Bool} {z1 z2 : Nat} {ds : List D} {k : KQ} : snilK neg (.im t (.ls (some p) z1 ds)) (.im u (.ls (some true) z2 [])) k = k (.im none (.sc (.bool (if neg then !p else p)))) [] := rfl
@[go_sem] theorem ceqK_l {neg : Bool} {t u : Option Nat} {ds es : List D} {n : Nat} {k : KQ} : ceqK neg (.im t (.ag ds)) (.im u (.ag es)) n k = (ds.length = n ∧ ceqL ds es fun r => k (.im none (.sc (.bool (if neg then !r else r)))) []) := rfl
@[go_sem] theorem ceqL_nil {f : Bool → Prop} : ceqL [] [] f = f true := rfl
@[go_sem] theorem ceqL_cons {a b : IntKind} {m n : Int} {ds es : List D} {f : Bool → Prop} : ceqL (.sc (.int a m) :: ds) (.sc (.int b n) :: es) f = (a = b ∧ ceqL ds es fun r => f ((m == n) && r)) := rfl
@[congr] theorem unK_cg {op : UnOp} {x x' : AV} {k : KQ} (h0 : x = x') : unK op x k = unK op x' k := by rw [h0]
@[congr] theorem cvtK_cg {kd : IntKind} {x x' : AV} {k : KQ} (h0 : x = x') : cvtK kd x k = cvtK kd x' k := by rw [h0]
@[congr] theorem mkK_cg  {l l' : AV} {c c' : AV} {d : Nat} {sz : Nat} {bytes : Nat} {z : D} {k : KQ} (h0 : l = l') (h1 : c = c') : mkK l c d sz bytes z k = mkK l' c' d sz bytes z k := by rw [h0, h1]
@[congr] theorem slcS_cg {s : ByteArray} {l l' : AV} {h h' : AV} {k : KQ} (h0 : l = l') (h1 : h = h') : slcS s l h k = slcS s l' h' k := by rw [h0, h1]
@[congr] theorem slcL_cg {t : Option Nat} {nn : Option Bool} {sz : Nat} {ds : List D} {l l' : AV} {h h' : AV} {k : KQ} (h0 : l = l') (h1 : h = h') : slcL t nn sz ds l h k = slcL t nn sz ds l' h' k := by rw [h0, h1]
@[congr] theorem slcK_cg  {x x' : AV} {ev : X → AV} {un : Nat → Option U} {sz : Nat} {lo : Option X} {hi : Option X} {k : KQ} (h0 : x = x') : slcK x ev un sz lo hi k = slcK x' ev un sz lo hi k := by rw [h0]
@[congr] theorem faW_cg  {u u' : Option U} {id : Nat} {el : Nat} {j : Nat} {off : Nat} {k : KQ} (h0 : u = u') : faW u id el j off k = faW u' id el j off k := by rw [h0]
@[congr] theorem faK_cg  {x x' : AV} {un : Nat → Option U} {off : Nat} {k : KQ} (h0 : x = x') : faK x un off k = faK x' un off k := by rw [h0]
@[congr] theorem flW_cg  {u u' : Option U} {i : Nat} {off : Nat} {sz : Nat} {agg : Bool} {k : KQ} (h0 : u = u') : flW u i off sz agg k = flW u' i off sz agg k := by rw [h0]
@[congr] theorem flK_cg  {x x' : AV} {un : Nat → Option U} {off : Nat} {sz : Nat} {agg : Bool} {k : KQ} (h0 : x = x') : flK x un off sz agg k = flK x' un off sz agg k := by rw [h0]
@[congr] theorem iaD_cg  {q q' : Option (Option Nat × D)} {sz : Nat} {n : Int} {k : KQ} (h0 : q = q') : iaD q sz n k = iaD q' sz n k := by rw [h0]
@[congr] theorem iaW_cg  {u u' : Option U} {id : Nat} {sz : Nat} {p : Nat} {k : KQ} (h0 : u = u') : iaW u id sz p k = iaW u' id sz p k := by rw [h0]
@[congr] theorem iaK_cg  {x x' : AV} {i i' : AV} {un : Nat → Option U} {sz : Nat} {k : KQ} (h0 : x = x') (h1 : i = i') : iaK x i un sz k = iaK x' i' un sz k := by rw [h0, h1]
@[congr] theorem ixK_cg  {x x' : AV} {i i' : AV} {k : KQ} (h0 : x = x') (h1 : i = i') : ixK x i k = ixK x' i' k := by rw [h0, h1]
@[congr] theorem lenD_cg  {q q' : Option (Option Nat × D)} {k : KQ} (h0 : q = q') : lenD q k = lenD q' k := by rw [h0]
@[congr] theorem lenK_cg  {x x' : AV} {un : Nat → Option U} {k : KQ} (h0 : x = x') : lenK x un k = lenK x' un k := by rw [h0]
@[congr] theorem calvK_cg  {x x' : AV} {Q : Program} {d : Option Nat} {args : List AV} {un : Nat → Option U} {k : KQ} (h0 : x = x') : calvK x Q d args un k = calvK x' Q d args un k := by rw [h0]
@[congr] theorem extK_cg  {x x' : AV} {i : Nat} {k : KQ} (h0 : x = x') : extK x i k = extK x' i k := by rw [h0]
@[congr] theorem bsK_cg  {ps ps' : List (Nat × AV)} {un : Nat → Option U} {d : Nat} {sz : Nat} {len : Nat} {k : KQ} (h0 : ps = ps') : bsK ps un d sz len k = bsK ps' un d sz len k := by rw [h0]
@[congr] theorem bldK_cg  {ps ps' : List (Nat × Nat × AV)} {un : Nat → Option U} {z : D} {k : KQ} (h0 : ps = ps') : bldK ps un z k = bldK ps' un z k := by rw [h0]
@[congr] theorem takeTr_cg  {u u' : Option U} {i : Nat} {st : St} {k : KT} (h0 : u = u') : takeTr u i st k = takeTr u' i st k := by rw [h0]
@[congr] theorem takeSm_cg  {u u' : Option U} {i : Nat} {off : Nat} {len : Nat} {st : St} {k : KT} (h0 : u = u') : takeSm u i off len st k = takeSm u' i off len st k := by rw [h0]
@[congr] theorem takeV_cg  {u u' : Option U} {i : Nat} {len : Nat} {sz : Nat} {st : St} {k : KL} (h0 : u = u') : takeV u i len sz st k = takeV u' i len sz st k := by rw [h0]
@[congr] theorem takeD_cg  {q q' : Option D} {sz : Nat} {st : St} {k : KL} (h0 : q = q') : takeD q sz st k = takeD q' sz st k := by rw [h0]
@[congr] theorem stU_cg  {u u' : Option U} {id : Nat} {el : Nat} {j : Nat} {sz : Nat} {own : Bool} {d : D} {st' : St} {f : St → Prop} (h0 : u = u') : stU u id el j sz own d st' f = stU u' id el j sz own d st' f := by rw [h0]
@[congr] theorem stK_cg  {a a' : AV} {x x' : AV} {st : St} {sz : Nat} {f : St → Prop} (h0 : a = a') (h1 : x = x') : stK a x st sz f = stK a' x' st sz f := by rw [h0, h1]
@[congr] theorem appU_cg  {u u' : Option U} {id : Nat} {off : Nat} {len : Nat} {own : Bool} {ds : List D} {st' : St} {d : Nat} {sz : Nat} {bytes : Nat} {f : St → Prop} (h0 : u = u') : appU u id off len own ds st' d sz bytes f = appU u' id off len own ds st' d sz bytes f := by rw [h0]
@[congr] theorem appX_cg  {x x' : AV} {own : Bool} {ds : List D} {st' : St} {d : Nat} {sz : Nat} {bytes : Nat} {f : St → Prop} (h0 : x = x') : appX x own ds st' d sz bytes f = appX x' own ds st' d sz bytes f := by rw [h0]

@[go_sem] theorem pickK_b {t : Option Nat} {b : Bool} {x y : AV} {k : KQ} : pickK (.im t (.sc (.bool b))) x y k = ((b = true → k x []) ∧ (b = false → k y [])) := rfl
@[go_sem] theorem boxK_im {e : D} {d sz : Nat} {k : KQ} : boxK (.im none e) d sz k = ((0 < sz ∧ e.size = sz) ∧ k (.pw d 0 0) [(d, .ar false (some false) sz [e])]) := rfl
@[go_sem] theorem ldW_ar {ow : Bool} {nn : Option Bool} {usz : Nat} {es : List D} {id el j : Nat} {agg : Bool} {sz : Nat} {k : KQ} : ldW (some (.ar ow nn usz es)) id el j agg sz k = ((j + sz ≤ usz ∧ (agg = true → (D.at es el).isAg = true)) ∧ k (ldAV ow id el j sz agg (D.sub (D.at es el) j sz agg)) []) := rfl
@[go_sem] theorem ldK_im {t : Option Nat} {d : D} {j : Nat} {un : Nat → Option U} {agg : Bool} {sz : Nat} {k : KQ} : ldK (.im t (.pt d j)) un agg sz k = ((j + sz ≤ d.size ∧ (agg = true → d.isAg = true)) ∧ k (.im t (D.sub d j sz agg)) []) := rfl
@[go_sem] theorem ldK_pw {id el j : Nat} {un : Nat → Option U} {agg : Bool} {sz : Nat} {k : KQ} : ldK (.pw id el j) un agg sz k = ldW (un id) id el j agg sz k := rfl
@[go_sem] theorem nckK_im {t : Option Nat} {d : D} {j : Nat} {k : KQ} : nckK (.im t (.pt d j)) k = k (.im t (.pt d j)) [] := rfl
@[go_sem] theorem nckK_pw {id el j : Nat} {k : KQ} : nckK (.pw id el j) k = k (.pw id el j) [] := rfl
@[go_sem] theorem unK_not {t : Option Nat} {b : Bool} {k : KQ} : unK .not (.im t (.sc (.bool b))) k = k (.im none (.sc (.bool (!b)))) [] := rfl
@[go_sem] theorem unK_neg {t : Option Nat} {a : IntKind} {m : Int} {k : KQ} : unK .neg (.im t (.sc (.int a m))) k = k (.im none (.sc (.int a (a.wrap (-m))))) [] := rfl
@[go_sem] theorem cvtK_i {t : Option Nat} {a b : IntKind} {m : Int} {k : KQ} : cvtK b (.im t (.sc (.int a m))) k = k (.im none (.sc (.int b (b.wrap m)))) [] := rfl
@[go_sem] theorem mkK_i {t u : Option Nat} {a b : IntKind} {m q : Int} {d sz bytes : Nat} {z : D} {k : KQ} : mkK (.im t (.sc (.int a m))) (.im u (.sc (.int b q))) d sz bytes z k =
    ((0 ≤ m ∧ m ≤ q ∧ bytes * q ≤ 140737488355328 ∧ q ≤ 140737488355328 ∧ 0 < sz ∧ z.size = sz ∧ z.noPtr = true) ∧ k (.sm d 0 m.toNat) [(d, .ar true (some false) sz (List.replicate m.toNat z))]) := rfl
@[go_sem] theorem slcS_i {s : ByteArray} {t u : Option Nat} {a b : IntKind} {l h : Int} {k : KQ} : slcS s (.im t (.sc (.int a l))) (.im u (.sc (.int b h))) k = ((0 ≤ l ∧ l ≤ h ∧ h ≤ s.size) ∧ k (.im none (.sc (.string (s.extract l.toNat h.toNat)))) []) := rfl
@[go_sem] theorem slcL_i {t0 : Option Nat} {nn : Option Bool} {sz : Nat} {ds : List D} {t u : Option Nat} {a b : IntKind} {l h : Int} {k : KQ} : slcL t0 nn sz ds (.im t (.sc (.int a l))) (.im u (.sc (.int b h))) k = ((0 ≤ l ∧ l ≤ h ∧ h ≤ ds.length) ∧ k (.im t0 (.ls nn sz ((ds.take h.toNat).drop l.toNat))) []) := rfl
@[go_sem] theorem slcK_ls {t : Option Nat} {nn : Option Bool} {sz sz' : Nat} {ds : List D} {ev : X → AV} {un : Nat → Option U} {lo hi : Option X} {k : KQ} : slcK (.im t (.ls nn sz' ds)) ev un sz lo hi k =
    (sz = sz' ∧ slcL t nn sz ds ((lo.map ev).getD (.im none (.sc (.int .i64 0)))) ((hi.map ev).getD (.im none (.sc (.int .i64 ds.length)))) k) := rfl
@[congr] theorem slsK_cg {x x' : AV} {ev : X → AV} {lo hi : Option X} {k : KQ} (h0 : x = x') : slsK x ev lo hi k = slsK x' ev lo hi k := by rw [h0]
@[congr] theorem slenK_cg {x x' : AV} {k : KQ} (h0 : x = x') : slenK x k = slenK x' k := by rw [h0]
@[go_sem] theorem slsK_s {t : Option Nat} {s : ByteArray} {ev : X → AV} {lo hi : Option X} {k : KQ} : slsK (.im t (.sc (.string s))) ev lo hi k =
    slcS s ((lo.map ev).getD (.im none (.sc (.int .i64 0)))) ((hi.map ev).getD (.im none (.sc (.int .i64 s.size)))) k := rfl
@[go_sem] theorem slenK_s {t : Option Nat} {s : ByteArray} {k : KQ} : slenK (.im t (.sc (.string s))) k = k (.im none (.sc (.int .i64 s.size))) [] := rfl
@[go_sem] theorem faW_ar {ow : Bool} {nn : Option Bool} {usz : Nat} {es : List D} {id el j off : Nat} {k : KQ} : faW (some (.ar ow nn usz es)) id el j off k = (j + off < usz ∧ k (.pw id el (j + off)) []) := rfl
@[go_sem] theorem faK_im {t : Option Nat} {d : D} {j off : Nat} {un : Nat → Option U} {k : KQ} : faK (.im t (.pt d j)) un off k = (j + off < d.size ∧ k (.im t (.pt d (j + off))) []) := rfl
@[go_sem] theorem faK_pw {id el j off : Nat} {un : Nat → Option U} {k : KQ} : faK (.pw id el j) un off k = faW (un id) id el j off k := rfl
@[go_sem] theorem flW_own {d : D} {i off sz : Nat} {agg : Bool} {k : KQ} : flW (some (.own d)) i off sz agg k = ((d.isAg = true ∧ off + sz ≤ d.size) ∧ k (.im (some i) (D.sub d off sz agg)) []) := rfl
@[go_sem] theorem flK_im {t : Option Nat} {d : D} {un : Nat → Option U} {off sz : Nat} {agg : Bool} {k : KQ} : flK (.im t d) un off sz agg k = ((d.isAg = true ∧ off + sz ≤ d.size) ∧ k (.im t (D.sub d off sz agg)) []) := rfl
@[go_sem] theorem flK_tr {i : Nat} {un : Nat → Option U} {off sz : Nat} {agg : Bool} {k : KQ} : flK (.tr i) un off sz agg k = flW (un i) i off sz agg k := rfl
@[go_sem] theorem iaD_ls {t : Option Nat} {nn : Option Bool} {sz sz' : Nat} {ds : List D} {m : Int} {k : KQ} : iaD (some (t, .ls nn sz' ds)) sz m k = ((sz = sz' ∧ 0 < sz ∧ 0 ≤ m ∧ m < ds.length) ∧ k (.im t (.pt (D.at ds m.toNat) 0)) []) := rfl
@[go_sem] theorem iaW_ar {ow : Bool} {nn : Option Bool} {usz : Nat} {es : List D} {id sz p : Nat} {k : KQ} : iaW (some (.ar ow nn usz es)) id sz p k = ((sz = usz ∧ 0 < sz) ∧ k (.pw id p 0) []) := rfl
@[go_sem] theorem iaK_sm {id off len : Nat} {t : Option Nat} {a : IntKind} {m : Int} {un : Nat → Option U} {sz : Nat} {k : KQ} : iaK (.sm id off len) (.im t (.sc (.int a m))) un sz k = ((0 ≤ m ∧ m < len) ∧ iaW (un id) id sz (off + m.toNat) k) := rfl
@[go_sem] theorem iaK_im {t u : Option Nat} {d : D} {a : IntKind} {m : Int} {un : Nat → Option U} {sz : Nat} {k : KQ} : iaK (.im u d) (.im t (.sc (.int a m))) un sz k = iaD (some (u, d)) sz m k := rfl
@[go_sem] theorem iaK_tr {i : Nat} {t : Option Nat} {a : IntKind} {m : Int} {un : Nat → Option U} {sz : Nat} {k : KQ} : iaK (.tr i) (.im t (.sc (.int a m))) un sz k = iaD (AV.den un (.tr i)) sz m k := rfl
@[go_sem] theorem iaK_cw {i el j : Nat} {t : Option Nat} {a : IntKind} {m : Int} {un : Nat → Option U} {sz : Nat} {k : KQ} : iaK (.cw i el j 1 false) (.im t (.sc (.int a m))) un sz k = iaC (un i) i el j sz m k := rfl
@[go_sem] theorem iaK_ss {id off len : Nat} {t : Option Nat} {a : IntKind} {m : Int} {un : Nat → Option U} {sz : Nat} {k : KQ} : iaK (.ss id off len) (.im t (.sc (.int a m))) un sz k = ((0 ≤ m ∧ m < len) ∧ iaW (un id) id sz (off + m.toNat) k) := rfl
@[go_sem] theorem iaK_qs {i el j isz off len : Nat} {t : Option Nat} {a : IntKind} {m : Int} {un : Nat → Option U} {sz : Nat} {k : KQ} : iaK (.qs i el j isz off len) (.im t (.sc (.int a m))) un sz k = iaD (AV.den un (.qs i el j isz off len)) sz m k := rfl
@[congr] theorem iaC_cg {u u' : Option U} {id el j sz : Nat} {n : Int} {k : KQ} (h0 : u = u') : iaC u id el j sz n k = iaC u' id el j sz n k := by rw [h0]
@[go_sem] theorem iaC_ar {nn : Option Bool} {usz : Nat} {es : List D} {id el j sz : Nat} {n : Int} {k : KQ} : iaC (some (.ar true nn usz es)) id el j sz n k = iaI id el j sz n (D.sub (D.at es el) j 1 false) k := rfl
@[congr] theorem iaI_cg {id el j sz : Nat} {n : Int} {d d' : D} {k : KQ} (h0 : d = d') : iaI id el j sz n d k = iaI id el j sz n d' k := by rw [h0]
@[go_sem] theorem iaI_ls {id el j sz : Nat} {n : Int} {nn : Option Bool} {sz' : Nat} {ds : List D} {k : KQ} : iaI id el j sz n (.ls nn sz' ds) k = ((sz = sz' ∧ 0 < sz ∧ 0 ≤ n ∧ n < ds.length) ∧ k (.pq id el j sz n.toNat 0) []) := rfl
@[go_sem] theorem faK_pq {id el j isz el' j' off : Nat} {un : Nat → Option U} {k : KQ} : faK (.pq id el j isz el' j') un off k = (j' + off < isz ∧ k (.pq id el j isz el' (j' + off)) []) := rfl
@[go_sem] theorem nckK_pq {id el j isz el' j' : Nat} {k : KQ} : nckK (.pq id el j isz el' j') k = k (.pq id el j isz el' j') [] := rfl
@[go_sem] theorem ldK_pq {id el j isz el' j' : Nat} {un : Nat → Option U} {agg : Bool} {sz : Nat} {k : KQ} : ldK (.pq id el j isz el' j') un agg sz k = ldQ (un id) id el j isz el' j' agg sz k := rfl
@[congr] theorem ldQ_cg {u u' : Option U} {id el j isz el' j' : Nat} {agg : Bool} {sz : Nat} {k : KQ} (h0 : u = u') : ldQ u id el j isz el' j' agg sz k = ldQ u' id el j isz el' j' agg sz k := by rw [h0]
@[go_sem] theorem ldQ_ar {nn : Option Bool} {usz : Nat} {es : List D} {id el j isz el' j' : Nat} {agg : Bool} {sz : Nat} {k : KQ} : ldQ (some (.ar true nn usz es)) id el j isz el' j' agg sz k = inLd isz el' j' sz agg id (D.sub (D.at es el) j 1 false) k := rfl
@[congr] theorem inLd_cg {isz el' j' sz : Nat} {agg : Bool} {id : Nat} {d d' : D} {k : KQ} (h0 : d = d') : inLd isz el' j' sz agg id d k = inLd isz el' j' sz agg id d' k := by rw [h0]
@[go_sem] theorem inLd_ls {isz el' j' sz : Nat} {agg : Bool} {id : Nat} {nn : Option Bool} {sz' : Nat} {ds : List D} {k : KQ} : inLd isz el' j' sz agg id (.ls nn sz' ds) k =
    ((sz' = isz ∧ el' < ds.length ∧ j' < isz ∧ j' + sz ≤ isz ∧ (agg = true → (D.at ds el').isAg = true)) ∧ k (.im (inTok agg id (D.sub (D.at ds el') j' sz agg)) (D.sub (D.at ds el') j' sz agg)) []) := rfl
@[go_sem] theorem inTok_t {id : Nat} {d : D} : inTok true id d = some id := by simp [inTok]
@[go_sem] theorem inTok_sc {id : Nat} {v : Value} : inTok false id (.sc v) = none := by simp [inTok, D.isSc]
@[go_sem] theorem inTok_ls {id : Nat} {nn : Option Bool} {sz : Nat} {ds : List D} : inTok false id (.ls nn sz ds) = some id := by simp [inTok, D.isSc]
@[go_sem] theorem inTok_ag {id : Nat} {ds : List D} : inTok false id (.ag ds) = some id := by simp [inTok, D.isSc]
@[congr] theorem slcR_cg {l l' h h' : AV} {n : Nat} {k : Nat → Nat → Prop} (h0 : l = l') (h1 : h = h') : slcR l h n k = slcR l' h' n k := by rw [h0, h1]
@[go_sem] theorem slcR_i {t u : Option Nat} {a b : IntKind} {l h : Int} {n : Nat} {k : Nat → Nat → Prop} : slcR (.im t (.sc (.int a l))) (.im u (.sc (.int b h))) n k = ((0 ≤ l ∧ l ≤ h ∧ h ≤ n) ∧ k l.toNat h.toNat) := rfl
@[go_sem] theorem slcK_sm {id off len : Nat} {ev : X → AV} {un : Nat → Option U} {sz : Nat} {lo hi : Option X} {k : KQ} : slcK (.sm id off len) ev un sz lo hi k =
    slcM (un id) id off len sz lo.isSome ((lo.map ev).getD (.im none (.sc (.int .i64 0)))) ((hi.map ev).getD (.im none (.sc (.int .i64 len)))) k := rfl
@[congr] theorem slcM_cg {u u' : Option U} {id off len sz : Nat} {lo : Bool} {l l' h h' : AV} {k : KQ} (h0 : u = u') (h1 : l = l') (h2 : h = h') : slcM u id off len sz lo l h k = slcM u' id off len sz lo l' h' k := by rw [h0, h1, h2]
@[go_sem] theorem slcM_t {ow : Bool} {nn : Option Bool} {usz : Nat} {es : List D} {id off len sz : Nat} {l h : AV} {k : KQ} : slcM (some (.ar ow nn usz es)) id off len sz true l h k = (usz = sz ∧ slcR l h len fun l h => k (.ss id (off + l) (h - l)) []) := rfl
@[go_sem] theorem slcM_f {ow : Bool} {nn : Option Bool} {usz : Nat} {es : List D} {id off len sz : Nat} {l h : AV} {k : KQ} : slcM (some (.ar ow nn usz es)) id off len sz false l h k = (usz = sz ∧ slcR l h len fun _ h => k (.sm id off h) []) := rfl
@[go_sem] theorem slcK_cw {id el j : Nat} {ev : X → AV} {un : Nat → Option U} {sz : Nat} {lo hi : Option X} {k : KQ} : slcK (.cw id el j 1 false) ev un sz lo hi k = slcC (un id) id el j sz ((lo.map ev).getD (.im none (.sc (.int .i64 0)))) (hi.map ev) k := rfl
@[congr] theorem slcC_cg {u u' : Option U} {id el j sz : Nat} {l l' : AV} {h h' : Option AV} {k : KQ} (h0 : u = u') (h1 : l = l') (h2 : h = h') : slcC u id el j sz l h k = slcC u' id el j sz l' h' k := by rw [h0, h1, h2]
@[go_sem] theorem slcC_ar {nn : Option Bool} {usz : Nat} {es : List D} {id el j sz : Nat} {l : AV} {h : Option AV} {k : KQ} : slcC (some (.ar true nn usz es)) id el j sz l h k = slcD (D.sub (D.at es el) j 1 false) id el j sz l h k := rfl
@[congr] theorem slcD_cg {d d' : D} {id el j sz : Nat} {l : AV} {h : Option AV} {k : KQ} (h0 : d = d') : slcD d id el j sz l h k = slcD d' id el j sz l h k := by rw [h0]
@[go_sem] theorem slcD_ls {nn : Option Bool} {isz : Nat} {ds : List D} {id el j sz : Nat} {l : AV} {h : Option AV} {k : KQ} : slcD (.ls nn isz ds) id el j sz l h k =
    (isz = sz ∧ slcR l (h.getD (.im none (.sc (.int .i64 ds.length)))) ds.length fun l h => k (.qs id el j sz l (h - l)) []) := rfl
@[congr] theorem s30K_cg {x x' : AV} {sz : Nat} {k : KQ} (h0 : x = x') : s30K x sz k = s30K x' sz k := by rw [h0]
@[go_sem] theorem s30K_im {t : Option Nat} {nn : Option Bool} {q : Nat} {ds : List D} {sz : Nat} {k : KQ} : s30K (.im t (.ls nn q ds)) sz k = k (.z0 nn sz) [] := rfl
@[go_sem] theorem calvK_fn {t : Option Nat} {f : Nat} {ds : List D} {Q : Program} {d : Option Nat} {args : List AV} {un : Nat → Option U} {k : KQ} : calvK (.im t (.fn f ds)) Q d args un k = callQ Q d f (args ++ ds.map (.im t)) un k := rfl
@[go_sem] theorem calvK_cl {f : Nat} {vs : List AV} {Q : Program} {d : Option Nat} {args : List AV} {un : Nat → Option U} {k : KQ} : calvK (.cl f vs) Q d args un k = callQ Q d f (args ++ vs) un k := rfl
@[go_sem] theorem lenK_ss {i off len : Nat} {un : Nat → Option U} {k : KQ} : lenK (.ss i off len) un k = k (.im none (.sc (.int .i64 len))) [] := rfl
@[go_sem] theorem lenK_z0 {nn : Option Bool} {sz : Nat} {un : Nat → Option U} {k : KQ} : lenK (.z0 nn sz) un k = k (.im none (.sc (.int .i64 0))) [] := rfl
@[go_sem] theorem lenK_qs {i el j isz off len : Nat} {un : Nat → Option U} {k : KQ} : lenK (.qs i el j isz off len) un k = lenD (AV.den un (.qs i el j isz off len)) k := rfl
def denQ (u : Option U) (id el j isz off len : Nat) : Option (Option Nat × D) := match u with | some (.ar true _ _ es) => (inSub off len isz (D.sub (D.at es el) j 1 false)).map (some id, ·) | _ => none
@[go_sem] theorem den_qs {id el j isz off len : Nat} {un : Nat → Option U} : AV.den un (.qs id el j isz off len) = denQ (un id) id el j isz off len := rfl
@[go_sem] theorem denQ_ar {nn : Option Bool} {sz : Nat} {es : List D} {id el j isz off len : Nat} : denQ (some (.ar true nn sz es)) id el j isz off len = (inSub off len isz (D.sub (D.at es el) j 1 false)).map (some id, ·) := rfl
@[go_sem] theorem inSub_ls {off len isz : Nat} {nn : Option Bool} {sz : Nat} {ds : List D} : inSub off len isz (.ls nn sz ds) = if sz = isz then some (.ls (if off = 0 ∧ len = ds.length then nn else none) sz ((ds.drop off).take len)) else none := rfl
@[go_sem] theorem stK_pq {id el j isz el' j' sz : Nat} {x : AV} {st : St} {f : St → Prop} : stK (.pq id el j isz el' j') x st sz f = takeN 12 st x (stD id el j isz el' j' sz f) := rfl
@[congr] theorem stD_cg {id el j isz el' j' sz : Nat} {f : St → Prop} {own own' : Bool} {d d' : D} {st st' : St} (h1 : own = own') (h2 : d = d') (h3 : st = st') : stD id el j isz el' j' sz f own d st = stD id el j isz el' j' sz f own' d' st' := by rw [h1, h2, h3]
@[go_sem] theorem stD_ap {id el j isz el' j' sz : Nat} {f : St → Prop} {own : Bool} {d : D} {st : St} : stD id el j isz el' j' sz f own d st = stQ (st.unit id) id el j isz el' j' sz own d st f := rfl
@[congr] theorem stQ_cg {u u' : Option U} {id el j isz el' j' sz : Nat} {own : Bool} {d : D} {st' : St} {f : St → Prop} (h0 : u = u') : stQ u id el j isz el' j' sz own d st' f = stQ u' id el j isz el' j' sz own d st' f := by rw [h0]
@[go_sem] theorem stQ_ar {nn : Option Bool} {usz : Nat} {es : List D} {id el j isz el' j' sz : Nat} {own : Bool} {d : D} {st' : St} {f : St → Prop} : stQ (some (.ar true nn usz es)) id el j isz el' j' sz own d st' f = stI nn usz es id el j isz el' j' sz own d st' f (D.sub (D.at es el) j 1 false) := rfl
@[congr] theorem stI_cg {nn : Option Bool} {usz : Nat} {es : List D} {id el j isz el' j' sz : Nat} {own : Bool} {d : D} {st' : St} {f : St → Prop} {q q' : D} (h0 : q = q') : stI nn usz es id el j isz el' j' sz own d st' f q = stI nn usz es id el j isz el' j' sz own d st' f q' := by rw [h0]
@[go_sem] theorem stI_ls {nn : Option Bool} {usz : Nat} {es : List D} {id el j isz el' j' sz : Nat} {own : Bool} {d : D} {st' : St} {f : St → Prop} {nn' : Option Bool} {sz' : Nat} {ds : List D} : stI nn usz es id el j isz el' j' sz own d st' f (.ls nn' sz' ds) =
    ((sz' = isz ∧ d.size = sz ∧ j' < isz ∧ j' + sz ≤ isz ∧ el < es.length ∧ el' < ds.length ∧ (j = 0 ∧ usz = 1 ∧ (D.at es el).isAg = false ∨ (D.at es el).isAg = true ∧ usz ≠ 1) ∧ (j' = 0 ∧ sz = isz ∨ (D.at ds el').isAg = true) ∧ d.noPtr = true) ∧
      f (st'.upd id (.ar true nn usz (inSet es usz el j (.ls nn' sz' (ds.set el' (D.put sz' (D.at ds el') j' sz d))))))) := rfl
@[go_sem] theorem appX_z0 {nn : Option Bool} {q : Nat} {own : Bool} {ds : List D} {st' : St} {d sz bytes : Nat} {f : St → Prop} : appX (.z0 nn q) own ds st' d sz bytes f =
    ((ds.length * bytes ≤ 140737488355328 ∧ ds.length ≤ maxEl ∧ 0 < sz ∧ own = true ∧ (∀ e ∈ ds, e.size = sz) ∧ st'.fresh [(d, .own .jk)] = true) ∧ f ((st'.addUs [(d, .own (.ls (nnGrow nn ds) sz ds))]).set d (.tr d))) := rfl
@[congr] theorem cpyS_cg {q q' : Option D} {x x' : AV} {sz : Nat} {st : St} {f : Nat → St → Prop} (h0 : q = q') (h1 : x = x') : cpyS q x sz st f = cpyS q' x' sz st f := by rw [h0, h1]
@[go_sem] theorem cpyS_ls {nn : Option Bool} {sz' : Nat} {ds : List D} {x : AV} {sz : Nat} {st : St} {f : Nat → St → Prop} : cpyS (some (.ls nn sz' ds)) x sz st f = ((sz' = sz ∧ 0 < sz ∧ noPtrs ds = true) ∧ cpyD x sz ds st f) := rfl
@[go_sem] theorem cpyK_ap {x y : AV} {d : Option Nat} {sz : Nat} {st : St} {f : St → Prop} : cpyK x y d sz st f = cpyS (y.arg st.unit) x sz st fun n st' => f (st'.setO d (.im none (.sc (.int .i64 n)))) := rfl
@[congr] theorem cpyD_cg {x x' : AV} {sz : Nat} {ds : List D} {st : St} {f : Nat → St → Prop} (h0 : x = x') : cpyD x sz ds st f = cpyD x' sz ds st f := by rw [h0]
@[go_sem] theorem cpyD_sm {id off len sz : Nat} {ds : List D} {st : St} {f : Nat → St → Prop} : cpyD (.sm id off len) sz ds st f = cpyU (st.unit id) id off len sz ds st f := rfl
@[go_sem] theorem cpyD_cw {id el j sz : Nat} {ds : List D} {st : St} {f : Nat → St → Prop} : cpyD (.cw id el j 1 false) sz ds st f = cpyI (st.unit id) id el j 0 none sz ds st f := rfl
@[go_sem] theorem cpyD_qs {id el j isz off len sz : Nat} {ds : List D} {st : St} {f : Nat → St → Prop} : cpyD (.qs id el j isz off len) sz ds st f = (isz = sz ∧ cpyI (st.unit id) id el j off (some len) sz ds st f) := rfl
@[congr] theorem cpyU_cg {u u' : Option U} {id off len sz : Nat} {ds : List D} {st : St} {f : Nat → St → Prop} (h0 : u = u') : cpyU u id off len sz ds st f = cpyU u' id off len sz ds st f := by rw [h0]
@[go_sem] theorem cpyU_ar {nn : Option Bool} {usz : Nat} {es : List D} {id off len sz : Nat} {ds : List D} {st : St} {f : Nat → St → Prop} : cpyU (some (.ar true nn usz es)) id off len sz ds st f =
    ((usz = sz ∧ off + len ≤ es.length) ∧ f (min len ds.length) (st.upd id (.ar true nn usz (spl es off (min len ds.length) ds)))) := rfl
@[congr] theorem cpyI_cg {u u' : Option U} {id el j off : Nat} {len : Option Nat} {sz : Nat} {ds : List D} {st : St} {f : Nat → St → Prop} (h0 : u = u') : cpyI u id el j off len sz ds st f = cpyI u' id el j off len sz ds st f := by rw [h0]
@[go_sem] theorem cpyI_ar {nn : Option Bool} {usz : Nat} {es : List D} {id el j off : Nat} {len : Option Nat} {sz : Nat} {ds : List D} {st : St} {f : Nat → St → Prop} : cpyI (some (.ar true nn usz es)) id el j off len sz ds st f = cpyJ nn usz es id el j off len sz ds st f (D.sub (D.at es el) j 1 false) := rfl
@[congr] theorem cpyJ_cg {nn : Option Bool} {usz : Nat} {es : List D} {id el j off : Nat} {len : Option Nat} {sz : Nat} {ds : List D} {st : St} {f : Nat → St → Prop} {q q' : D} (h0 : q = q') : cpyJ nn usz es id el j off len sz ds st f q = cpyJ nn usz es id el j off len sz ds st f q' := by rw [h0]
@[go_sem] theorem cpyJ_ls {nn : Option Bool} {usz : Nat} {es : List D} {id el j off : Nat} {len : Option Nat} {sz : Nat} {ds : List D} {st : St} {f : Nat → St → Prop} {nn' : Option Bool} {sz' : Nat} {ds' : List D} : cpyJ nn usz es id el j off len sz ds st f (.ls nn' sz' ds') =
    ((sz' = sz ∧ el < es.length ∧ (j = 0 ∧ usz = 1 ∧ (D.at es el).isAg = false ∨ (D.at es el).isAg = true ∧ usz ≠ 1)) ∧
      f (min (len.getD ds'.length) ds.length) (st.upd id (.ar true nn usz (inSet es usz el j (.ls nn' sz' (spl ds' off (min (len.getD ds'.length) ds.length) ds)))))) := rfl
@[go_sem] theorem ixK_i {t u : Option Nat} {s : ByteArray} {a : IntKind} {m : Int} {k : KQ} : ixK (.im t (.sc (.string s))) (.im u (.sc (.int a m))) k = ((0 ≤ m ∧ m < s.size) ∧ k (.im none (.sc (.int .u8 (s.data.getD m.toNat 0).toNat))) []) := rfl
@[go_sem] theorem lenD_ls {t : Option Nat} {nn : Option Bool} {sz : Nat} {ds : List D} {k : KQ} : lenD (some (t, .ls nn sz ds)) k = k (.im none (.sc (.int .i64 ds.length))) [] := rfl
@[go_sem] theorem lenK_ls {t : Option Nat} {nn : Option Bool} {sz : Nat} {ds : List D} {un : Nat → Option U} {k : KQ} : lenK (.im t (.ls nn sz ds)) un k = k (.im none (.sc (.int .i64 ds.length))) [] := rfl
@[go_sem] theorem lenK_sm {i off len : Nat} {un : Nat → Option U} {k : KQ} : lenK (.sm i off len) un k = k (.im none (.sc (.int .i64 len))) [] := rfl
@[go_sem] theorem lenK_tr {i : Nat} {un : Nat → Option U} {k : KQ} : lenK (.tr i) un k = lenD (AV.den un (.tr i)) k := rfl
@[go_sem] theorem lenK_cw {i el j cz : Nat} {cg : Bool} {un : Nat → Option U} {k : KQ} : lenK (.cw i el j cz cg) un k = lenD (AV.den un (.cw i el j cz cg)) k := rfl
def denW (u : Option U) (id el j cz : Nat) (cg : Bool) : Option (Option Nat × D) := match u with | some (.ar true _ _ es) => some (some id, D.sub (D.at es el) j cz cg) | _ => none
def denT (u : Option U) (k : Nat) : Option (Option Nat × D) := match u with | some (.own d) => some (some k, d) | _ => none
@[go_sem] theorem den_im {t : Option Nat} {d : D} {un : Nat → Option U} : AV.den un (.im t d) = some (t, d) := rfl
@[go_sem] theorem den_tr {k : Nat} {un : Nat → Option U} : AV.den un (.tr k) = denT (un k) k := rfl
@[go_sem] theorem den_cw {id el j cz : Nat} {cg : Bool} {un : Nat → Option U} : AV.den un (.cw id el j cz cg) = denW (un id) id el j cz cg := rfl
@[go_sem] theorem denW_ar {nn : Option Bool} {sz : Nat} {es : List D} {id el j cz : Nat} {cg : Bool} : denW (some (.ar true nn sz es)) id el j cz cg = some (some id, D.sub (D.at es el) j cz cg) := rfl
@[go_sem] theorem denT_own {d : D} {k : Nat} : denT (some (.own d)) k = some (some k, d) := rfl
@[go_sem] theorem calvK_f {t : Option Nat} {f : Nat} {Q : Program} {d : Option Nat} {args : List AV} {un : Nat → Option U} {k : KQ} : calvK (.im t (.sc (.func (.func f) ⟨[]⟩ ⟨[]⟩))) Q d args un k = callQ Q d f args un k := rfl
@[go_sem] theorem extK_t {vs : List AV} {i : Nat} {k : KQ} : extK (.tup vs) i k = (i < vs.length ∧ k (vs.getD i .any) []) := rfl
@[go_sem] theorem takeTr_o {d : D} {i : Nat} {st : St} {k : KT} : takeTr (some (.own d)) i st k = k true d (st.del i) := rfl
@[go_sem] theorem takeSm_a {nn : Option Bool} {sz : Nat} {es : List D} {i off len : Nat} {st : St} {k : KT} : takeSm (some (.ar true nn sz es)) i off len st k = ((off = 0 ∧ len = es.length) ∧ k true (.ls nn sz es) (st.del i)) := rfl
@[congr] theorem takeCw_cg {u u' : Option U} {i el j sz : Nat} {agg : Bool} {st : St} {k : KT} (h0 : u = u') : takeCw u i el j sz agg st k = takeCw u' i el j sz agg st k := by rw [h0]
@[go_sem] theorem takeCw_a {nn : Option Bool} {usz : Nat} {es : List D} {i el j sz : Nat} {agg : Bool} {st : St} {k : KT} : takeCw (some (.ar true nn usz es)) i el j sz agg st k = ((agg = true → (D.at es el).isAg = true) ∧ k true (D.sub (D.at es el) j sz agg) (st.updC i el (.ar true nn usz (es.set el (D.put usz (D.at es el) j sz (jks sz agg)))))) := rfl
@[go_sem] theorem takeA_some {i : Nat} {d : D} {st : St} {k : KT} : takeA st (.im (some i) d) k = (d.noPtr = true ∧ k true d st) := by simp only [takeA]
@[go_sem] theorem takeA_cw {i el j sz : Nat} {agg : Bool} {st : St} {k : KT} : takeA st (.cw i el j sz agg) k = takeCw (st.unit i) i el j sz agg st k := by simp only [takeA]
@[go_sem] theorem takeY_cw {i el j cz sz : Nat} {cg : Bool} {st : St} {k : KL} : takeY st sz (.cw i el j cz cg) k = takeD (AV.arg st.unit (.cw i el j cz cg)) sz st k := rfl
@[go_sem] theorem appX_cw {i el j cz : Nat} {cg : Bool} {own : Bool} {ds : List D} {st' : St} {d sz bytes : Nat} {f : St → Prop} : appX (.cw i el j cz cg) own ds st' d sz bytes f = takeA st' (.cw i el j cz cg) (appE own ds d sz bytes f) := rfl
@[go_sem] theorem takeA_none {d : D} {st : St} {k : KT} : takeA st (.im none d) k = k d.noPtr d st := by simp only [takeA]
@[go_sem] theorem takeA_tr {i : Nat} {st : St} {k : KT} : takeA st (.tr i) k = takeTr (st.unit i) i st k := by simp only [takeA]
@[go_sem] theorem takeA_sm {i off len : Nat} {st : St} {k : KT} : takeA st (.sm i off len) k = takeSm (st.unit i) i off len st k := by simp only [takeA]
@[go_sem] theorem takeA_sg {vs : List AV} {st : St} {k : KT} : takeA st (.sg vs) k = takeL st vs (sgC k) := by simp only [takeA]
@[go_sem] theorem takeL_nil {st : St} {k : KL} : takeL st [] k = k true [] st := by simp only [takeL]
@[go_sem] theorem takeL_cons {v : AV} {vs : List AV} {st : St} {k : KL} : takeL st (v :: vs) k = takeA st v (lstC vs k) := by simp only [takeL]; rfl
@[congr] theorem takeA_cg {st st' : St} {v v' : AV} {k : KT} (h : st = st') (h' : v = v') : takeA st v k = takeA st' v' k := by rw [h, h']
@[go_sem] theorem takeN_im {n : Nat} {d : D} {st : St} {k : KT} : takeN n st (.im none d) k = k d.flat d st := by cases n <;> simp only [takeN]
@[go_sem] theorem takeN_imS {n : Nat} {t : Nat} {d : D} {st : St} {k : KT} : takeN n st (.im (some t) d) k = takeA st (.im (some t) d) k := by cases n <;> simp only [takeN]
@[go_sem] theorem takeN_tr {n : Nat} {i : Nat} {st : St} {k : KT} : takeN n st (.tr i) k = takeA st (.tr i) k := by cases n <;> simp only [takeN]
@[go_sem] theorem takeN_sm {n : Nat} {i off len : Nat} {st : St} {k : KT} : takeN n st (.sm i off len) k = takeA st (.sm i off len) k := by cases n <;> simp only [takeN]
@[go_sem] theorem takeN_cw {n : Nat} {i el j sz : Nat} {agg : Bool} {st : St} {k : KT} : takeN n st (.cw i el j sz agg) k = takeA st (.cw i el j sz agg) k := by cases n <;> simp only [takeN]
@[go_sem] theorem takeN_sg {n : Nat} {vs : List AV} {st : St} {k : KT} : takeN (n + 1) st (.sg vs) k = takeNL (takeN n) st vs (sgC k) := by simp only [takeN]
@[go_sem] theorem takeN_vb {n : Nat} {i len : Nat} {st : St} {k : KT} : takeN (n + 1) st (.vb i len) k = takeBx (takeN n) (st.unit i) i len st k := by simp only [takeN]
@[congr] theorem takeN_cg {n : Nat} {st st' : St} {v v' : AV} {k : KT} (h : st = st') (h' : v = v') : takeN n st v k = takeN n st' v' k := by rw [h, h']
@[congr] theorem takeBx_cg {f : St → AV → KT → Prop} {u u' : Option U} {i len : Nat} {st : St} {k : KT} (h : u = u') : takeBx f u i len st k = takeBx f u' i len st k := by rw [h]
@[go_sem] theorem takeBx_a {f : St → AV → KT → Prop} {sz : Nat} {items : List AV} {i len : Nat} {st : St} {k : KT} : takeBx f (some (.bx sz items)) i len st k = (len = items.length ∧ takeNL f (st.del i) items (lsC sz k)) := rfl
@[go_sem] theorem takeNL_nil {f : St → AV → KT → Prop} {st : St} {k : KL} : takeNL f st [] k = k true [] st := rfl
@[go_sem] theorem takeNL_cons {f : St → AV → KT → Prop} {v : AV} {vs : List AV} {st : St} {k : KL} : takeNL f st (v :: vs) k = f st v (lstE f vs k) := rfl
@[congr] theorem takeNL_cg {f : St → AV → KT → Prop} {st st' : St} {v v' : List AV} {k : KL} (h : st = st') (h' : v = v') : takeNL f st v k = takeNL f st' v' k := by rw [h, h']
@[congr] theorem lstE_cg {f : St → AV → KT → Prop} {vs vs' : List AV} {k : KL} {b b' : Bool} {d d' : D} {st st' : St} (h1 : vs = vs') (h2 : b = b') (h3 : d = d') (h4 : st = st') : lstE f vs k b d st = lstE f vs' k b' d' st' := by rw [h1, h2, h3, h4]
@[go_sem] theorem lstE_ap {f : St → AV → KT → Prop} {vs : List AV} {k : KL} {b : Bool} {d : D} {st : St} : lstE f vs k b d st = takeNL f st vs (lstD b d k) := rfl
@[congr] theorem lsC_cg {sz : Nat} {k : KT} {b b' : Bool} {ds ds' : List D} {st st' : St} (h2 : b = b') (h3 : ds = ds') (h4 : st = st') : lsC sz k b ds st = lsC sz k b' ds' st' := by rw [h2, h3, h4]
@[go_sem] theorem lsC_ap {sz : Nat} {k : KT} {b : Bool} {ds : List D} {st : St} : lsC sz k b ds st = ((0 < sz ∧ b = true ∧ ∀ d ∈ ds, d.size = sz) ∧ k true (.ls (some false) sz ds) st) := rfl
@[congr] theorem takeL_cg {st st' : St} {v v' : List AV} {k : KL} (h : st = st') (h' : v = v') : takeL st v k = takeL st' v' k := by rw [h, h']
@[congr] theorem takeY_cg {st st' : St} {sz : Nat} {v v' : AV} {k : KL} (h : st = st') (h' : v = v') : takeY st sz v k = takeY st' sz v' k := by rw [h, h']
@[congr] theorem lstC_cg {vs vs' : List AV} {k : KL} {b b' : Bool} {d d' : D} {st st' : St} (h1 : vs = vs') (h2 : b = b') (h3 : d = d') (h4 : st = st') : lstC vs k b d st = lstC vs' k b' d' st' := by rw [h1, h2, h3, h4]
@[go_sem] theorem lstC_ap {vs : List AV} {k : KL} {b : Bool} {d : D} {st : St} : lstC vs k b d st = takeL st vs (lstD b d k) := rfl
@[congr] theorem lstD_cg {k : KL} {b b' c c' : Bool} {d d' : D} {ds ds' : List D} {st st' : St} (h2 : b = b') (h3 : d = d') (h5 : c = c') (h6 : ds = ds') (h4 : st = st') : lstD b d k c ds st = lstD b' d' k c' ds' st' := by rw [h2, h3, h4, h5, h6]
@[go_sem] theorem lstD_ap {k : KL} {b c : Bool} {d : D} {ds : List D} {st : St} : lstD b d k c ds st = ((b = true ∨ c = false ∨ noPtrs ds = true) ∧ (c = true ∨ b = false ∨ d.noPtr = true) ∧ k (mixB b d.noPtr c (noPtrs ds)) (d :: ds) st) := rfl
@[congr] theorem sgC_cg {k : KT} {b b' : Bool} {ds ds' : List D} {st st' : St} (h1 : b = b') (h2 : ds = ds') (h3 : st = st') : sgC k b ds st = sgC k b' ds' st' := by rw [h1, h2, h3]
@[go_sem] theorem sgC_ap {k : KT} {b : Bool} {ds : List D} {st : St} : sgC k b ds st = k b (.ag (ds.map D.cells).flatten) st := rfl
@[go_sem] theorem takeV_a {bsz : Nat} {items : List AV} {i len sz : Nat} {st : St} {k : KL} : takeV (some (.bx bsz items)) i len sz st k = ((bsz = sz ∧ len = items.length) ∧ takeNL (takeN 12) (st.del i) items k) := rfl
@[go_sem] theorem takeD_a {nn : Option Bool} {sz sz' : Nat} {ds : List D} {st : St} {k : KL} : takeD (some (.ls nn sz' ds)) sz st k = ((sz = sz' ∧ noPtrs ds = true) ∧ k true ds st) := rfl
@[go_sem] theorem takeY_vb {i len sz : Nat} {st : St} {k : KL} : takeY st sz (.vb i len) k = takeV (st.unit i) i len sz st k := rfl
@[go_sem] theorem takeY_im {nn : Option Bool} {sz sz' : Nat} {ds : List D} {st : St} {k : KL} : takeY st sz (.im none (.ls nn sz' ds)) k = (sz = sz' ∧ k (noPtrs ds) ds st) := rfl
@[go_sem] theorem takeY_so {i : Nat} {d : D} {sz : Nat} {st : St} {k : KL} : takeY st sz (.im (some i) d) k = takeD (some d) sz st k := rfl
@[go_sem] theorem takeY_tr {i sz : Nat} {st : St} {k : KL} : takeY st sz (.tr i) k = takeD (AV.arg st.unit (.tr i)) sz st k := rfl
@[go_sem] theorem takeY_sm {i off len sz : Nat} {st : St} {k : KL} : takeY st sz (.sm i off len) k = takeD (AV.arg st.unit (.sm i off len)) sz st k := rfl
@[go_sem] theorem stK_pw {id el j sz : Nat} {x : AV} {st : St} {f : St → Prop} : stK (.pw id el j) x st sz f = takeN 12 st x (stC id el j sz f) := rfl
@[congr] theorem stC_cg {id el j sz : Nat} {f : St → Prop} {own own' : Bool} {d d' : D} {st st' : St} (h1 : own = own') (h2 : d = d') (h3 : st = st') : stC id el j sz f own d st = stC id el j sz f own' d' st' := by rw [h1, h2, h3]
@[go_sem] theorem stC_ap {id el j sz : Nat} {f : St → Prop} {own : Bool} {d : D} {st : St} : stC id el j sz f own d st = stU (st.unit id) id el j sz own d st f := rfl
@[go_sem] theorem stU_ar {ow : Bool} {nn : Option Bool} {usz : Nat} {es : List D} {id el j sz : Nat} {own : Bool} {d : D} {st' : St} {f : St → Prop} : stU (some (.ar ow nn usz es)) id el j sz own d st' f =
    ((d.size = sz ∧ j + sz ≤ usz ∧ el < es.length ∧ (j = 0 ∧ sz = usz ∨ (D.at es el).isAg = true) ∧ (own = ow ∨ d.noPtr = true ∨ noPtrs es = true)) ∧
        f (st'.upd id (.ar (modeOf own ow d.flat (noPtrs es)) nn usz (es.set el (D.put usz (D.at es el) j sz d))))) := rfl
@[congr] theorem appC_cg {x : X} {d sz bytes : Nat} {f : St → Prop} {own own' : Bool} {ds ds' : List D} {st st' : St} (h1 : own = own') (h2 : ds = ds') (h3 : st = st') : appC x d sz bytes f own ds st = appC x d sz bytes f own' ds' st' := by rw [h1, h2, h3]
@[go_sem] theorem appC_ap {x : X} {d sz bytes : Nat} {f : St → Prop} {own : Bool} {ds : List D} {st' : St} : appC x d sz bytes f own ds st' = appX (st'.ev x) own ds st' d sz bytes f := rfl
@[go_sem] theorem appX_nil {t : Option Nat} {q : Nat} {own : Bool} {ds : List D} {st' : St} {d sz bytes : Nat} {f : St → Prop} : appX (.im t (.ls (some true) q [])) own ds st' d sz bytes f =
    ((ds.length * bytes ≤ 140737488355328 ∧ ds.length ≤ maxEl ∧ 0 < sz ∧ (∀ e ∈ ds, e.size = sz) ∧ st'.fresh [(d, .own .jk)] = true) ∧ f ((st'.addUs [(d, .ar own (nnGrow (some true) ds) sz ds)]).set d (.sm d 0 ds.length))) := rfl
@[go_sem] theorem appX_sm {id off len : Nat} {own : Bool} {ds : List D} {st' : St} {d sz bytes : Nat} {f : St → Prop} : appX (.sm id off len) own ds st' d sz bytes f = appU (st'.unit id) id off len own ds st' d sz bytes f := rfl
@[go_sem] theorem appX_tr {i : Nat} {own : Bool} {ds : List D} {st' : St} {d sz bytes : Nat} {f : St → Prop} : appX (.tr i) own ds st' d sz bytes f = takeA st' (.tr i) (appE own ds d sz bytes f) := rfl
@[congr] theorem appE_cg {own : Bool} {ds : List D} {d sz bytes : Nat} {f : St → Prop} {o o' : Bool} {e e' : D} {st st' : St} (h1 : o = o') (h2 : e = e') (h3 : st = st') : appE own ds d sz bytes f o e st = appE own ds d sz bytes f o' e' st' := by rw [h1, h2, h3]
@[go_sem] theorem appE_ls {own : Bool} {ds : List D} {d sz bytes : Nat} {f : St → Prop} {own' : Bool} {nn : Option Bool} {sz' : Nat} {es : List D} {st'' : St} : appE own ds d sz bytes f own' (.ls nn sz' es) st'' =
    ((sz' = sz ∧ own = true ∧ own' = true ∧ (es.length + ds.length) * bytes ≤ 140737488355328 ∧ es.length + ds.length ≤ maxEl ∧ (∀ e ∈ ds, e.size = sz) ∧ 0 < sz ∧ st''.fresh [(d, .own .jk)] = true) ∧
        f ((st''.addUs [(d, .own (.ls (nnGrow nn ds) sz (es ++ ds)))]).set d (.tr d))) := rfl
@[go_sem] theorem appU_ar {ow : Bool} {nn : Option Bool} {usz : Nat} {es : List D} {id off len : Nat} {own : Bool} {ds : List D} {st' : St} {d sz bytes : Nat} {f : St → Prop} : appU (some (.ar ow nn usz es)) id off len own ds st' d sz bytes f =
    ((usz = sz ∧ 0 < sz ∧ off = 0 ∧ len = es.length ∧ (len + ds.length) * bytes ≤ 140737488355328 ∧ len + ds.length ≤ maxEl ∧ (∀ e ∈ ds, e.size = sz) ∧ (own = ow ∨ noPtrs ds = true ∨ noPtrs es = true)) ∧
        f ((st'.upr id (.ar (modeOf own ow (D.flatL ds) (noPtrs es)) (nnGrow nn ds) sz (es ++ ds))).set d (.sm id 0 (len + ds.length)))) := rfl
end

attribute [go_sem] D.flat D.flatL litAV litTok jks List.replicate_succ List.replicate_zero binK binA binV ldAV nnGrow modeOf bsK bldK itemOk sortedB fillSg sgAV imAll AV.size mixB imDs AV.arg AV.shared argsOf bindR bindR.bindL D.noPtr D.noPtrL D.size D.sizeL D.put noPtrs ROp.dst
attribute [go_sem] if_true if_false ite_true ite_false reduceCtorEq true_and and_true true_implies List.map_nil List.map_cons List.length_nil List.length_cons List.length_map List.nil_append List.cons_append
  Option.map_some Option.map_none Option.getD_some Option.getD_none List.append_nil or_true true_or or_false false_or Bool.not_true Bool.not_false false_implies List.flatten_cons List.flatten_nil List.all_cons List.all_nil
  bne_self_eq_false beq_self_eq_true Bool.true_and Bool.and_true Bool.false_and Bool.and_false Bool.or_true Bool.or_false Bool.true_or Bool.false_or List.getD_cons_zero List.getD_cons_succ List.set_cons_zero List.set_cons_succ
  Int.toNat_natCast Int.toNat_zero Nat.zero_add Nat.add_zero List.isEmpty_nil List.isEmpty_cons List.drop_zero List.take_zero List.drop_succ_cons List.take_succ_cons List.drop_nil List.take_nil
  Bool.not_eq_true Bool.not_eq_false decide_eq_true_eq decide_eq_false_iff_not
@[go_sem] theorem at_cons0 (d : D) (ds : List D) : D.at (d :: ds) 0 = d := rfl

@[go_sem] theorem sub_ag {ds : List D} {j sz : Nat} {agg : Bool} : D.sub (.ag ds) j sz agg = if agg then .ag ((ds.drop j).take sz) else ds.getD j default := rfl
@[go_sem] theorem sub_sc {v : Value} {j sz : Nat} {agg : Bool} : D.sub (.sc v) j sz agg = .sc v := rfl
@[go_sem] theorem sub_ls {nn : Option Bool} {z : Nat} {ds : List D} {j sz : Nat} {agg : Bool} : D.sub (.ls nn z ds) j sz agg = .ls nn z ds := rfl
@[go_sem] theorem sub_pt {d : D} {i j sz : Nat} {agg : Bool} : D.sub (.pt d i) j sz agg = .pt d i := rfl
@[go_sem] theorem sub_jk {j sz : Nat} {agg : Bool} : D.sub .jk j sz agg = .jk := rfl
@[go_sem] theorem isAg_ag {ds : List D} : D.isAg (.ag ds) = true := rfl
@[go_sem] theorem isAg_sc {v : Value} : D.isAg (.sc v) = false := rfl
@[go_sem] theorem isAg_ls {nn : Option Bool} {z : Nat} {ds : List D} : D.isAg (.ls nn z ds) = false := rfl
@[go_sem] theorem isAg_pt {d : D} {i : Nat} : D.isAg (.pt d i) = false := rfl
@[go_sem] theorem isAg_jk : D.isAg .jk = false := rfl
@[go_sem] theorem cells_ag {ds : List D} : D.cells (.ag ds) = ds := rfl
@[go_sem] theorem cells_sc {v : Value} : D.cells (.sc v) = [.sc v] := rfl
@[go_sem] theorem cells_ls {nn : Option Bool} {z : Nat} {ds : List D} : D.cells (.ls nn z ds) = [.ls nn z ds] := rfl
@[go_sem] theorem cells_pt {d : D} {i : Nat} : D.cells (.pt d i) = [.pt d i] := rfl
@[go_sem] theorem cells_jk : D.cells .jk = [.jk] := rfl

@[go_sem high] theorem grdK_tt {t : Option Nat} {p q : Prop} : grdK (.im t (.sc (.bool true))) true p q = p := by simp [grdK]
@[go_sem high] theorem grdK_tf {t : Option Nat} {p q : Prop} : grdK (.im t (.sc (.bool true))) false p q = q := by simp [grdK]
@[go_sem high] theorem grdK_ft {t : Option Nat} {p q : Prop} : grdK (.im t (.sc (.bool false))) true p q = q := by simp [grdK]
@[go_sem high] theorem grdK_ff {t : Option Nat} {p q : Prop} : grdK (.im t (.sc (.bool false))) false p q = p := by simp [grdK]
@[go_sem high] theorem condK_t {t : Option Nat} {p q : Prop} : condK (.im t (.sc (.bool true))) p q = p := by simp [condK]
@[go_sem high] theorem condK_f {t : Option Nat} {p q : Prop} : condK (.im t (.sc (.bool false))) p q = q := by simp [condK]
@[go_sem high] theorem pickK_t {t : Option Nat} {a b : AV} {k : KQ} : pickK (.im t (.sc (.bool true))) a b k = k a [] := by simp [pickK]
@[go_sem high] theorem pickK_f {t : Option Nat} {a b : AV} {k : KQ} : pickK (.im t (.sc (.bool false))) a b k = k b [] := by simp [pickK]
attribute [go_sem] Bool.not_true Bool.not_false

end Go.Ax
namespace Go.Ax

def ROp.xs : ROp → List X
  | .mv _ x | .box _ _ x | .ld _ _ _ x | .nck _ x | .un _ _ x | .cvt _ _ x | .fa _ _ x | .fl _ _ _ _ x | .len _ x | .slen _ x | .ext _ x _ => [x]
  | .pick _ c a b => [c, a, b]
  | .zer .. => []
  | .st _ a x => [a, x]
  | .bin _ _ x y | .beq _ _ x y | .snil _ _ x y | .ceq _ _ _ x y | .ia _ _ x y | .ix _ x y | .app _ _ _ x y => [x, y]
  | .mk _ _ _ _ l c => [l, c]
  | .slc _ _ x lo hi | .sls _ x lo hi => x :: (lo.toList ++ hi.toList)
  | .call _ _ args => args
  | .calv _ x args => x :: args
  | .bs _ _ _ _ ps => ps.map (·.2)
  | .bld _ _ ps => ps.map (·.2.2)
  | .mcl _ _ x y => [x, y]
  | .cls _ _ x args => x :: args
  | .mkf _ _ args => args
  | .s30 _ _ x => [x]
  | .cpy _ _ x y => [x, y]
  | .other _ => []

def X.slot : X → Option Nat
  | .t n => some n
  | .c _ => none
def RO.slots (r : RO) : List Nat := r.op.xs.filterMap X.slot ++ (match r.g with | some (t, _) => [t] | none => [])

def direct (o : Oper) : List Nat := (o.after.toList.filter (fun e => Region.binds .any e)).map (·.on)
def waits (ops : Array Oper) (i : Nat) : List Nat := match ops[i]? with | some o => direct o | none => []

def noDup : List Nat → Bool
  | [] => true
  | x :: l => !l.contains x && noDup l

def slotOk (ops : Array Oper) (R : List RO) (i : Nat) (t : Nat) : Bool :=
  (List.range R.length).all fun j =>
    match R[j]? with
    | some r => r.op.dst != some t || (j < i && (waits ops i).contains j) || (i < j && (waits ops j).contains i)
    | none => true
def drawOk (ops : Array Oper) (R : List RO) : Bool :=
  noDup (R.filterMap (·.op.dst)) && (R.length == ops.size) &&
  (List.range R.length).all fun i =>
    (waits ops i).all (· < i) &&
    match R[i]? with
    | some r => r.op.isQ && r.slots.all (slotOk ops R i)
    | none => true

end Go.Ax
