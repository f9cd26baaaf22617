/- THE ENGINE, PART 8: a generator of conditions over the register code, and its soundness. No condition. -/
import Derived.Test.YtmcbkgcnlopjiaaEnG
import Derived.ProofKit
set_option linter.unusedSimpArgs false
set_option linter.unusedVariables false
set_option linter.unnecessarySimpa false
namespace Go.Ax

inductive MV where
 | va (x : Value)
 | rt
 | pt (i j : Nat)
 | sb (i j : Nat)
 | sg (i j z : Nat)
 | any
 deriving Inhabited

def mlk : List (Nat × MV) → Nat → MV
 | [], _ => .any
 | (k, v) :: r, t => if k = t then v else mlk r t

structure MS where
 bx : Bool
 ds : List D
 env : List (Nat × MV)

def MS.set (s : MS) (d : Nat) (v : MV) : MS := ⟨s.bx, s.ds, (d, v) :: s.env⟩
def kilV : MV → MV
 | .sb _ _ => .any
 | .sg _ _ _ => .any
 | .pt i j => .pt i j
 | v => v
def kil : List (Nat × MV) → List (Nat × MV)
 | [] => []
 | (k, v) :: r => (k, kilV v) :: kil r
def kilP : List (Nat × MV) → List (Nat × MV)
 | [] => []
 | (k, .va x) :: r => (k, .va x) :: kilP r
 | (k, .rt) :: r => (k, .rt) :: kilP r
 | (k, _) :: r => (k, .any) :: kilP r
def mev (env : List (Nat × MV)) : X → MV
 | .t n => mlk env n
 | .c (.sc x) => .va x
 | .c _ => .any

def mLen (x : MV) (sl : Bool) (d : Nat) (s : MS) (k : MS → Prop) : Prop :=
 match x with
 | .rt => sl = true ∧ k (s.set d (.va (.int .i64 s.ds.length)))
 | _ => False
def mBin (x y : MV) (op : BinOp) (d : Nat) (s : MS) (k : MS → Prop) : Prop :=
 match x, y with
 | .va a, .va b => binV op a b fun v => k (s.set d (.va v))
 | _, _ => False
def mIa (x i : MV) (sl : Bool) (sz z d : Nat) (s : MS) (k : MS → Prop) : Prop :=
 match x, i with
 | .rt, .va (.int _ n) => (sl = true ∧ s.bx = true ∧ z = sz ∧ 0 < sz ∧ 0 ≤ n ∧ n < s.ds.length) ∧ k (s.set d (.pt n.toNat 0))
 | _, _ => False
def mFa (x : MV) (sz off d : Nat) (s : MS) (k : MS → Prop) : Prop :=
 match x with
 | .pt i j => j + off < sz ∧ k (s.set d (.pt i (j + off)))
 | _ => False
def mBox (x : MV) (sl : Bool) (sz z d : Nat) (s : MS) (k : MS → Prop) : Prop :=
 match x with
 | .rt => (sl = false ∧ s.bx = false ∧ z = sz ∧ 0 < sz ∧ 0 < s.ds.length) ∧ k ⟨true, s.ds, (d, .pt 0 0) :: kilP s.env⟩
 | _ => False
def mLd (x : MV) (agg : Bool) (z d : Nat) (s : MS) (k : MS → Prop) : Prop :=
 match x with
 | .pt i j => ((agg = false ∧ z = 1) ∧ k (s.set d (.sb i j))) ∨ ((agg = true ∧ j + z ≤ (D.at s.ds i).size ∧ (D.at s.ds i).isAg = true) ∧ k (s.set d (.sg i j z)))
 | _ => False
def mSt (x y : MV) (sl : Bool) (sz z : Nat) (s : MS) (k : MS → Prop) : Prop :=
 match x, y with
 | .pt i j, .va y => (sl = true ∧ z = 1 ∧ y.oneCell' = true ∧ (D.sub (D.at s.ds i) j 1 false).isSc = true ∧ (j = 0 ∧ 1 = sz ∨ (D.at s.ds i).isAg = true)) ∧
   k ⟨s.bx, s.ds.set i (D.put sz (D.at s.ds i) j 1 (.sc y)), kil s.env⟩
 | _, _ => False
def mMcl (x y : MV) (P : Program) (sz d f : Nat) (s : MS) (k : MS → Prop) : Prop :=
 match x, y with
 | .sb i j, .va (.int .i64 n) => ∃ e' n', AFM P f (D.sub (D.at s.ds i) j 1 false) n e' n' ∧ ((D.sub (D.at s.ds i) j 1 false).isAg = false ∧ (j = 0 ∧ 1 = sz ∨ (D.at s.ds i).isAg = true)) ∧
   k ⟨s.bx, s.ds.set i (D.put sz (D.at s.ds i) j 1 e'), (d, .va (.int .i64 n')) :: s.env⟩
 | .sg i j z, .va (.int .i64 n) => ∃ e' n', AFM P f (D.sub (D.at s.ds i) j z true) n e' n' ∧ (D.at s.ds i).isAg = true ∧
   k ⟨s.bx, s.ds.set i (D.put sz (D.at s.ds i) j z e'), (d, .va (.int .i64 n')) :: s.env⟩
 | _, _ => False
def mOp (P : Program) (sl : Bool) (sz : Nat) (r : ROp) (s : MS) (k : MS → Prop) : Prop :=
 match r with
 | .mv d x => k (s.set d (mev s.env x))
 | .len d x => mLen (mev s.env x) sl d s k
 | .bin d op x y => mBin (mev s.env x) (mev s.env y) op d s k
 | .ia d z x i => mIa (mev s.env x) (mev s.env i) sl sz z d s k
 | .fa d off x => mFa (mev s.env x) sz off d s k
 | .box d z x => mBox (mev s.env x) sl sz z d s k
 | .ld d agg z x => mLd (mev s.env x) agg z d s k
 | .st z x y => mSt (mev s.env x) (mev s.env y) sl sz z s k
 | .mcl d f x y => mMcl (mev s.env x) (mev s.env y) P sz d f s k
 | _ => False
def mOps (P : Program) (sl : Bool) (sz : Nat) : List RO → MS → (MS → Prop) → Prop
 | [], s, k => k s
 | ⟨none, r⟩ :: rest, s, k => mOp P sl sz r s fun s => mOps P sl sz rest s k
 | ⟨some _, _⟩ :: _, _, _ => False
def MEnt (s s' : MS) : Prop := s'.bx = s.bx ∧ s'.ds = s.ds ∧ ∀ t, mlk s'.env t = .any ∨ mlk s'.env t = mlk s.env t
def mseq (f : MS → Prop) (K : Exit → MS → Prop) (e : Exit) (s : MS) : Prop :=
 match e with
 | .normal => f s
 | e => K e s
def mblk (id : Nat) (K : Exit → MS → Prop) (e : Exit) (s : MS) : Prop :=
 match e with
 | .exit i => if i = id then K .normal s else K (.exit i) s
 | e => K e s
def mCond (c : MV) (p q : Prop) : Prop :=
 match c with
 | .va (.bool t) => (t = true → p) ∧ (t = false → q)
 | _ => False
def mR (P : Program) (sl : Bool) (sz : Nat) : RC → MS → (Exit → MS → Prop) → Prop
 | .skip, s, K => K .normal s
 | .reg false ops, s, K => mOps P sl sz ops s (K .normal)
 | .seq a b, s, K => mR P sl sz a s (mseq (fun s => mR P sl sz b s K) K)
 | .cond x a b, s, K => mCond (mev s.env x) (mR P sl sz a s K) (mR P sl sz b s K)
 | .blk id c, s, K => mR P sl sz c s (mblk id K)
 | .loop c, s, K => ∃ I : Nat → MS → Prop, (∃ n s', MEnt s s' ∧ I n s') ∧ ∀ n s, I n s → mR P sl sz c s (mseq (fun s' => ∃ n' s'', MEnt s' s'' ∧ I n' s'' ∧ n' < n) K)
 | .exit id, s, K => K (.exit id) s
 | .ret, s, K => K .ret s
 | _, _, _ => False

structure MFix where
 v : Value
 F0 : List Nat
 w0 : World
 sz : Nat
 sl : Bool
 n : Nat
 len : Nat
structure MG where
 F : List Nat
 cs : List Value
 b : Nat
 off : Nat
 cap : Nat
 c : Array Value
 e : TypeId
def MRep (X : MFix) (G : MG) (bx : Bool) : MV → Value → Prop
 | .va x, y => y = x
 | .rt, y => y = X.v
 | .pt i j, y => bx = true ∧ y = .pointer (some ⟨G.b, G.off + (i * X.sz + j), none⟩) ∧ i < X.len ∧ j < X.sz
 | .sb i j, y => G.cs[i * X.sz + j]? = some y ∧ i < X.len ∧ j < X.sz
 | .sg i j z, y => (∃ c, y = .agg c ∧ c.toList = (G.cs.drop (i * X.sz + j)).take z) ∧ i < X.len ∧ j + z ≤ X.sz
 | .any, _ => True
structure MSat (X : MFix) (s : MS) (a : Act) (w : World) (G : MG) : Prop where
 dfr : a.defers = []
 tm : a.tmps.size = X.n
 os : w.os = X.w0.os
 tape : w.tape = X.w0.tape
 output : w.output = X.w0.output
 size : X.w0.heap.size ≤ w.heap.size
 old : ∀ y, y < X.w0.heap.size → y ∉ X.F0 → w.heap[y]? = X.w0.heap[y]?
 f0 : ∀ y ∈ X.F0, y < X.w0.heap.size
 len : s.ds.length = X.len
 rep : RepL w.heap s.ds G.F G.cs
 sz : ∀ d ∈ s.ds, d.size = X.sz
 nd : G.F.Nodup
 fin : ∀ y ∈ G.F, y ∈ X.F0 ∧ Unf w.heap y
 vsl : X.sl = true → s.bx = true → X.v = .slice (some ⟨G.b, G.off, none⟩) X.len G.cap ∧ G.b ∈ X.F0 ∧ X.len ≤ G.cap ∧ G.off + G.cap * X.sz ≤ G.c.size
 vsl0 : X.sl = true → ∃ p cap, X.v = .slice p X.len cap
 vst : X.sl = false → X.v.cells.toList = G.cs
 blk : s.bx = true → w.heap[G.b]? = some (.cells G.c G.e (0, 0)) ∧ G.off + G.cs.length ≤ G.c.size ∧ (G.c.toList.drop G.off).take G.cs.length = G.cs ∧ G.b ∉ G.F
 bst : s.bx = true → X.sl = false → X.w0.heap.size ≤ G.b
 env : ∀ t, MRep X G s.bx (mlk s.env t) (a.tmps.getD t undef)

variable {P : Program} {X : MFix}

theorem MSat.cslen {s : MS} {a : Act} {w : World} {G : MG} (h : MSat X s a w G) : G.cs.length = X.len * X.sz := by
 rw [h.rep.length, D.sizeL_const h.sz, h.len]

theorem mev_rep {s : MS} {a : Act} {w : World} {G : MG} (h : MSat X s a w G) {t : TypeId} {x : Operand} {x' : Ax.X} (hx : resX P t x = some x') : MRep X G s.bx (mev s.env x') (a.eval x) := by
 cases x' with
 | t n =>
  have hn : x = .tmp n := by
   unfold resX at hx
   split at hx <;> simp_all
  subst hn
  have := h.env n
  simpa [mev, Act.eval] using this
 | c d =>
  cases d with
  | sc y =>
   have := evRep (st := ⟨0, [], []⟩) (a := a) (h := w.heap) (us := []) (g := ⟨fun _ => none, fun _ => [], fun _ => undef, fun _ => 0, fun _ => False⟩) (fun t => by simp [lk, VRep]) hx
   exact sc_val this
  | _ => simp [mev, MRep]

variable {s : MS} {a : Act} {w : World} {G : MG} {o : Oper} {k : MS → Prop} {Q' : Exit → Act → World → Prop}

theorem mput_get {a : Act} {d t : Nat} {v : Value} (hd : d < a.tmps.size) : (a.put (some d) v).tmps.getD t undef = if d = t then v else a.tmps.getD t undef := by
 simp only [Act.put]
 rw [Array.getD_eq_getD_getElem?, Array.getD_eq_getD_getElem?]
 by_cases h : d = t
 ·subst h; simp [hd]
 ·rw [Array.getElem?_setIfInBounds_ne h, if_neg h]

theorem m_set (h : MSat X s a w G) {d : Nat} (hd : d < X.n) {v : Value} {mv : MV} (hr : MRep X G s.bx mv v) : MSat X (s.set d mv) (a.put (some d) v) w G := by
 have hds : d < a.tmps.size := by rw [h.tm]; exact hd
 refine ⟨h.dfr, by simp [Act.put, h.tm], h.os, h.tape, h.output, h.size, h.old, h.f0, h.len, h.rep, h.sz, h.nd, h.fin, h.vsl, h.vsl0, h.vst, h.blk, h.bst, fun t => ?_⟩
 rw [mput_get hds]
 simp only [MS.set, mlk]
 split
 ·exact hr
 ·exact h.env t

def MPost (X : MFix) (k : MS → Prop) (a : Act) (w : World) : Prop := ∃ s G, k s ∧ MSat X s a w G

theorem m_pure (h : MSat X s a w G) {d : Nat} (ho : o.dst = some d) (hd : d < X.n) {v : Value} {mv : MV} (hrun : (execOp a.eval o).run P w = .ok (.value v) w) (hr : MRep X G s.bx mv v) (hk : k (s.set d mv)) : o.wp P a w (MPost X k) Q' := by
 unfold Oper.wp
 rw [hrun, Oper.upon_value, ho]
 exact ⟨_, G, hk, m_set h hd hr⟩

theorem MSat.cell (h : MSat X s a w G) {i j : Nat} (hi : i < X.len) (hj : j < X.sz) (hw : j = 0 ∧ 1 = X.sz ∨ (D.at s.ds i).isAg = true) {y : Value} (hy : G.cs[i * X.sz + j]? = some y) :
  ∃ A B C, G.F = A ++ (B ++ C) ∧ Rep w.heap (D.sub (D.at s.ds i) j 1 false) B [y] ∧
   ∀ (h' : Heap) (e' : D) (F' : List Nat) (y' : Value), (∀ b ∈ A ++ C, h'[b]? = w.heap[b]?) → Rep h' e' F' [y'] → ∃ A2 C2, (∀ x, x ∈ A2 ++ C2 ↔ x ∈ A ++ C) ∧ (A2 ++ C2).Nodup ∧
    RepL h' (s.ds.set i (D.put X.sz (D.at s.ds i) j 1 e')) (A2 ++ (F' ++ C2)) (G.cs.set (i * X.sz + j) y') ∧ (∀ d ∈ s.ds.set i (D.put X.sz (D.at s.ds i) j 1 e'), d.size = X.sz) := by
 have hil : i < s.ds.length := by rw [h.len]; exact hi
 have hone := h.rep.one y (List.mem_of_getElem? hy)
 have hjk : Rep w.heap D.jk [] [y] := by simp [Rep, hone]
 have hlt := (List.getElem?_eq_some_iff.1 hy).1
 have hyv := (List.getElem?_eq_some_iff.1 hy).2
 obtain ⟨A, B, C, hF, y1, y2, y3⟩ := put_list h.rep hjk h.sz hil (by simp [D.size]) (by omega) hw
 have hsub := y3 false (by simp) (fun _ => rfl)
 have e1 : (G.cs.drop (i * X.sz + j)).take 1 = [y] := by
  rw [List.drop_eq_getElem_cons hlt, hyv]; rfl
 have e2 : G.cs.take (i * X.sz + j) ++ ([y] ++ G.cs.drop (i * X.sz + j + 1)) = G.cs := by
  rw [← hyv]
  simp
 rw [e1] at hsub
 rw [e2] at y1
 refine ⟨A, B, C, hF, hsub, fun h' e' F' y' hfr hre => ?_⟩
 have hAC : ∀ b ∈ A ++ ([] ++ C), h'[b]? = w.heap[b]? := by simpa using hfr
 have y1' := y1.frame hAC
 have hel2 : i < (s.ds.set i (D.put X.sz (D.at s.ds i) j 1 D.jk)).length := by simpa using hil
 have hat : D.at (s.ds.set i (D.put X.sz (D.at s.ds i) j 1 D.jk)) i = D.put X.sz (D.at s.ds i) j 1 D.jk := by
  rw [D.at_eq hel2]; simp
 have he1 : e'.size = 1 := by have := hre.length; simpa using this.symm
 have hagl : ∀ l, D.at s.ds i = .ag l → l.length = X.sz := by
  intro l hl
  rw [D.at_eq hil] at hl
  have h1 := h.sz _ (List.getElem_mem hil)
  obtain ⟨_, _, _, _, _, _, _, _, _, hpk, _⟩ := h.rep.pick hil
  rw [hl] at h1 hpk
  simp only [Rep] at hpk
  simp only [D.size, D.sizeL_one hpk.1] at h1
  exact h1
 have hpp : D.put X.sz (D.put X.sz (D.at s.ds i) j 1 D.jk) j 1 e' = D.put X.sz (D.at s.ds i) j 1 e' := by
  by_cases hwh : j = 0 ∧ 1 = X.sz
  ·simp [D.put, hwh]
  ·have hA := hw.resolve_left hwh
   cases hD : D.at s.ds i with
   | ag l =>
    have hlen := hagl l hD
    simp only [D.put, hwh, if_false, D.cells]
    have e1 : (l.take j ++ [D.jk]).length = j + 1 := by simp; omega
    have e2 : (l.take j).length = j := by simp; omega
    rw [List.drop_left' e1, List.append_assoc (l.take j), List.take_left' e2]
   | _ => rw [hD] at hA; simp [D.isAg] at hA
 have hw2 : j = 0 ∧ 1 = X.sz ∨ (D.at (s.ds.set i (D.put X.sz (D.at s.ds i) j 1 D.jk)) i).isAg = true := by
  rw [hat]
  by_cases hwh : j = 0 ∧ 1 = X.sz
  ·exact .inl hwh
  ·right
   have hA := hw.resolve_left hwh
   cases hD : D.at s.ds i with
   | ag l => simp [D.put, hwh, D.isAg]
   | _ => rw [hD] at hA; simp [D.isAg] at hA
 obtain ⟨A2, B2, C2, hG, x1, x2, x3⟩ := put_list y1' hre y2 hel2 he1 (by omega) hw2
 rw [hat, hpp, List.set_set] at x1 x2
 have hB2 : B2 = [] := by
  have := x3 false (by simp) (fun _ => rfl)
  rw [hat, e1] at this
  have hjj : D.sub (D.put X.sz (D.at s.ds i) j 1 D.jk) j 1 false = D.jk := by
   by_cases hwh : j = 0 ∧ 1 = X.sz
   ·simp [D.put, hwh, D.sub]
   ·have hA := hw.resolve_left hwh
    cases hD : D.at s.ds i with
    | ag l =>
     have hlen := hagl l hD
     have e2 : (l.take j).length = j := by simp; omega
     simp only [D.put, hwh, if_false, D.sub, bF, D.cells, List.getD_eq_getElem?_getD, List.append_assoc]
     rw [List.getElem?_append_right (by omega), e2]
     simp
    | _ => rw [hD] at hA; simp [D.isAg] at hA
  rw [hjj] at this
  simp only [Rep] at this
  exact this.1
 subst hB2
 have hset : G.cs.take (i * X.sz + j) ++ ([y'] ++ G.cs.drop (i * X.sz + j + 1)) = G.cs.set (i * X.sz + j) y' := by
  rw [List.set_eq_take_append_cons_drop, if_pos hlt]; simp
 rw [hset] at x1
 have hmem : ∀ x, x ∈ A2 ++ C2 ↔ x ∈ A ++ C := by
  intro x
  have e3 : A ++ C = A2 ++ C2 := by simpa using hG
  rw [e3]
 refine ⟨A2, C2, hmem, ?_, x1, x2⟩
 have e3 : A ++ C = A2 ++ C2 := by simpa using hG
 rw [← e3]
 have := h.nd
 rw [hF, List.nodup_append, List.nodup_append] at this
 exact List.nodup_append.2 ⟨this.1, this.2.1.2.1, fun x hx y hy e => this.2.2 x hx y (by simp [hy]) e⟩

theorem jk_F : ∀ {n : Nat} {h : Heap} {F : List Nat} {cs : List Value}, RepL h (List.replicate n D.jk) F cs → F = []
 | 0, _, _, _, hr => by simp only [List.replicate_zero, RepL] at hr; exact hr.1
 | n + 1, _, _, _, hr => by
  simp only [List.replicate_succ, RepL_cons] at hr
  obtain ⟨F1, F2, c1, c2, rfl, rfl, h1, h2⟩ := hr
  simp only [Rep] at h1
  rw [h1.1, jk_F h2]; rfl
theorem MSat.cells (h : MSat X s a w G) {i j z : Nat} (hi : i < X.len) (hj : j + z ≤ X.sz) (hA : (D.at s.ds i).isAg = true) :
  ∃ A B C, G.F = A ++ (B ++ C) ∧ Rep w.heap (D.sub (D.at s.ds i) j z true) B ((G.cs.drop (i * X.sz + j)).take z) ∧
   ∀ (h' : Heap) (e' : D) (F' : List Nat), (∀ b ∈ A ++ C, h'[b]? = w.heap[b]?) → Rep h' e' F' ((G.cs.drop (i * X.sz + j)).take z) → ∃ A2 C2, (∀ x, x ∈ A2 ++ C2 ↔ x ∈ A ++ C) ∧ (A2 ++ C2).Nodup ∧
    RepL h' (s.ds.set i (D.put X.sz (D.at s.ds i) j z e')) (A2 ++ (F' ++ C2)) G.cs ∧ (∀ d ∈ s.ds.set i (D.put X.sz (D.at s.ds i) j z e'), d.size = X.sz) := by
 have hil : i < s.ds.length := by rw [h.len]; exact hi
 obtain ⟨l, hD⟩ : ∃ l, D.at s.ds i = .ag l := by
  cases hD : D.at s.ds i with
  | ag l => exact ⟨l, rfl⟩
  | _ => rw [hD] at hA; simp [D.isAg] at hA
 have hlen : l.length = X.sz := by
  have hl := hD
  rw [D.at_eq hil] at hl
  have h1 := h.sz _ (List.getElem_mem hil)
  obtain ⟨_, _, _, _, _, _, _, _, _, hpk, _⟩ := h.rep.pick hil
  rw [hl] at h1 hpk
  simp only [Rep] at hpk
  simp only [D.size, D.sizeL_one hpk.1] at h1
  exact h1
 have hcl := h.cslen
 have hle : i * X.sz + X.sz ≤ X.len * X.sz := by
  have := Nat.mul_le_mul_right X.sz (show i + 1 ≤ X.len by omega)
  rw [Nat.add_mul] at this; omega
 generalize hv : (G.cs.drop (i * X.sz + j)).take z = vc
 have hvl : vc.length = z := by rw [← hv]; simp; omega
 have hone : ∀ v ∈ vc, v.oneCell' = true := fun v hm => h.rep.one v (by rw [← hv] at hm; exact List.mem_of_mem_drop (List.mem_of_mem_take hm))
 obtain ⟨hjk, hjs⟩ := jks_rep w.heap z true (by simp) vc hvl hone
 have hw : j = 0 ∧ z = X.sz ∨ (D.at s.ds i).isAg = true := .inr hA
 obtain ⟨A, B, C, hF, y1, y2, y3⟩ := put_list h.rep hjk h.sz hil hjs hj hw
 have hsub := y3 true (fun _ => hA) (by simp)
 rw [hv] at hsub
 have e2 : G.cs.take (i * X.sz + j) ++ (vc ++ G.cs.drop (i * X.sz + j + z)) = G.cs := by
  have e1 : G.cs.drop (i * X.sz + j + z) = (G.cs.drop (i * X.sz + j)).drop z := by rw [List.drop_drop]
  rw [← hv, e1, List.take_append_drop, List.take_append_drop]
 rw [e2] at y1
 refine ⟨A, B, C, hF, hsub, fun h' e' F' hfr hre => ?_⟩
 have hAC : ∀ b ∈ A ++ ([] ++ C), h'[b]? = w.heap[b]? := by simpa using hfr
 have y1' := y1.frame hAC
 have hel2 : i < (s.ds.set i (D.put X.sz (D.at s.ds i) j z (jks z true))).length := by simpa using hil
 have hat : D.at (s.ds.set i (D.put X.sz (D.at s.ds i) j z (jks z true))) i = D.put X.sz (D.at s.ds i) j z (jks z true) := by
  rw [D.at_eq hel2]; simp
 have he1 : e'.size = z := by have := hre.length; omega
 have hj1 : (jks z true).cells = List.replicate z D.jk := rfl
 have e3 : (l.take j).length = j := by simp; omega
 have e4 : (l.take j ++ List.replicate z D.jk).length = j + z := by simp; omega
 have hput : D.put X.sz (D.at s.ds i) j z (jks z true) = .ag (l.take j ++ List.replicate z D.jk ++ l.drop (j + z)) := by
  rw [hD]
  by_cases hwh : j = 0 ∧ z = X.sz
  ·obtain ⟨rfl, rfl⟩ := hwh
   simp only [D.put, and_self, if_true, jks]
   rw [List.drop_eq_nil_of_le (by omega)]; simp
  ·simp only [D.put, hwh, if_false, hj1]
 have hpp : D.put X.sz (D.put X.sz (D.at s.ds i) j z (jks z true)) j z e' = D.put X.sz (D.at s.ds i) j z e' := by
  rw [hput, hD]
  by_cases hwh : j = 0 ∧ z = X.sz
  ·simp [D.put, hwh]
  ·simp only [D.put, hwh, if_false]
   rw [List.drop_left' e4, List.append_assoc (l.take j), List.take_left' e3]
 have hw2 : j = 0 ∧ z = X.sz ∨ (D.at (s.ds.set i (D.put X.sz (D.at s.ds i) j z (jks z true))) i).isAg = true := by
  rw [hat, hput]; exact .inr rfl
 obtain ⟨A2, B2, C2, hG, x1, x2, x3⟩ := put_list y1' hre y2 hel2 he1 hj hw2
 rw [hat, hpp, List.set_set] at x1 x2
 have hB2 : B2 = [] := by
  have := x3 true (fun _ => by rw [hat, hput]; rfl) (by simp)
  rw [hat, hput] at this
  have hjj : D.sub (.ag (l.take j ++ List.replicate z D.jk ++ l.drop (j + z))) j z true = .ag (List.replicate z D.jk) := by
   simp only [D.sub, if_true]
   rw [List.append_assoc, List.drop_left' e3, List.take_left' (by simp)]
  rw [hjj] at this
  simp only [Rep] at this
  exact jk_F this.2
 subst hB2
 rw [e2] at x1
 have e5 : A ++ C = A2 ++ C2 := by simpa using hG
 refine ⟨A2, C2, fun x => by rw [e5], ?_, x1, x2⟩
 rw [← e5]
 have := h.nd
 rw [hF, List.nodup_append, List.nodup_append] at this
 exact List.nodup_append.2 ⟨this.1, this.2.1.2.1, fun x hx y hy e => this.2.2 x hx y (by simp [hy]) e⟩
theorem kil_lk {env : List (Nat × MV)} {t : Nat} : mlk (kil env) t = kilV (mlk env t) := by
 induction env with
 | nil => rfl
 | cons x r ih =>
  obtain ⟨k, v⟩ := x
  simp only [kil, mlk]
  split
  ·rfl
  ·exact ih
theorem kilP_lk {env : List (Nat × MV)} {t : Nat} : mlk (kilP env) t = mlk env t ∧ ((∃ x, mlk env t = .va x) ∨ mlk env t = .rt) ∨ mlk (kilP env) t = .any := by
 induction env with
 | nil => right; rfl
 | cons x r ih =>
  obtain ⟨k, v⟩ := x
  by_cases h : k = t
  ·cases v <;> simp [kilP, mlk, h]
  ·cases v <;> simpa [kilP, mlk, h] using ih

theorem m_st (h : MSat X s a w G) {t u1 u2 : TypeId} {z : Nat} {p x : Operand} {A Y : Ax.X} (ho : o.op = .store t p x) (hd : o.dst = none) (hp : resX P u1 p = some A) (hx : resX P u2 x = some Y)
  (hz : szOf P t = some z) (hq : mSt (mev s.env A) (mev s.env Y) X.sl X.sz z s k) : o.wp P a w (MPost X k) Q' := by
 have ep := mev_rep h hp
 have ex := mev_rep h hx
 unfold mSt at hq
 split at hq
 ·next i j y e1 e2 =>
  obtain ⟨⟨q1, rfl, q3, q4, q5⟩, hk⟩ := hq
  rw [e1] at ep
  rw [e2] at ex
  simp only [MRep] at ep ex
  obtain ⟨hbx, hpv, hi, hj⟩ := ep
  obtain ⟨b1, b2, b3, b4⟩ := h.blk hbx
  have hcl := h.cslen
  have hle : i * X.sz + X.sz ≤ X.len * X.sz := by
   have := Nat.mul_le_mul_right X.sz (show i + 1 ≤ X.len by omega)
   rw [Nat.add_mul] at this; omega
  have hlt : i * X.sz + j < G.cs.length := by omega
  obtain ⟨A1, B1, C1, hF, hsub, hgo⟩ := h.cell hi hj q5 (List.getElem?_eq_getElem hlt)
  have hB1 : B1 = [] := by
   cases hD : D.sub (D.at s.ds i) j 1 false with
   | sc x => rw [hD] at hsub; simp only [Rep] at hsub; exact hsub.1
   | _ => rw [hD] at q4; simp [D.isSc] at q4
  subst hB1
  have hrun := run_st (P := P) (w := w) hz (off := G.off + (i * X.sz + j)) (v := y) (by rw [cells_one q3]; rfl) b1 (by omega) (by rw [cells_one q3]; simpa using q3)
  have hoth : ∀ x, x ≠ G.b → (w.setRow G.b (G.c.toList.take (G.off + (i * X.sz + j)) ++ y.cells.toList ++ G.c.toList.drop (G.off + (i * X.sz + j) + 1)).toArray).heap[x]? = w.heap[x]? := fun x hx => setRow_other w G.b x _ hx
  obtain ⟨A2, C2, hm, hnd, x1, x2⟩ := hgo (w.setRow G.b (G.c.toList.take (G.off + (i * X.sz + j)) ++ y.cells.toList ++ G.c.toList.drop (G.off + (i * X.sz + j) + 1)).toArray).heap (.sc y) [] y
   (fun b hb => hoth b (by rintro rfl; exact b4 (by rw [hF]; simpa using hb))) (by simp [Rep, q3])
  unfold Oper.wp
  have hrun' : (execOp a.eval o).run P w = .ok .skip (w.setRow G.b (G.c.toList.take (G.off + (i * X.sz + j)) ++ y.cells.toList ++ G.c.toList.drop (G.off + (i * X.sz + j) + 1)).toArray) := by
   simp [execOp, ho, hpv, ex, hrun]
  rw [hrun', Oper.upon_skip, hd]
  have hcsz : (G.c.toList.take (G.off + (i * X.sz + j)) ++ y.cells.toList ++ G.c.toList.drop (G.off + (i * X.sz + j) + 1)).toArray.size = G.c.size := by
   rw [cells_one q3]
   simp
   omega
  have hl2 : (G.cs.set (i * X.sz + j) y).length = G.cs.length := by simp
  have hbF0 : G.b ∈ X.F0 := (h.vsl q1 hbx).2.1
  refine ⟨_, ⟨A2 ++ C2, G.cs.set (i * X.sz + j) y, G.b, G.off, G.cap, (G.c.toList.take (G.off + (i * X.sz + j)) ++ y.cells.toList ++ G.c.toList.drop (G.off + (i * X.sz + j) + 1)).toArray, G.e⟩, hk, h.dfr, h.tm, h.os, h.tape, h.output, by rw [setRow_size]; exact h.size, ?_, h.f0, by simp [h.len], by simpa using x1, x2, hnd, ?_, ?_, h.vsl0, by simp [q1], ?_, by simp [q1], ?_⟩
  ·intro x hx hn
   rw [hoth x (by rintro rfl; exact hn hbF0)]
   exact h.old x hx hn
  ·intro x hx
   have hxF : x ∈ G.F := by rw [hF]; simpa using (hm x).1 hx
   obtain ⟨z1, c2, e2, z2⟩ := h.fin x hxF
   exact ⟨z1, c2, e2, by rw [hoth x (by rintro rfl; exact b4 hxF)]; exact z2⟩
  ·intro _ _
   obtain ⟨z1, z2, z3, z4⟩ := h.vsl q1 hbx
   exact ⟨z1, z2, z3, by simp only; rw [hcsz]; exact z4⟩
  ·intro _
   refine ⟨setRow_heap w G.b G.c _ G.e _ b1, by simp only; rw [hcsz, hl2]; exact b2, ?_, fun hb => b4 (by rw [hF]; simpa using (hm G.b).1 hb)⟩
   simp only [hl2]
   have e3 : G.c.toList.take (G.off + (i * X.sz + j)) ++ y.cells.toList ++ G.c.toList.drop (G.off + (i * X.sz + j) + 1) = G.c.toList.set (G.off + (i * X.sz + j)) y := by
    rw [cells_one q3, List.set_eq_take_append_cons_drop, if_pos (by simp; omega)]
    simp
   rw [e3]
   conv => rhs; rw [← b3]
   apply List.ext_getElem?
   intro q
   simp only [List.getElem?_take, List.getElem?_drop, List.getElem?_set, List.length_take, List.length_drop, Array.length_toList]
   by_cases h1 : q < G.cs.length
   ·by_cases h2 : q = i * X.sz + j
    ·subst h2
     have h3 : G.off + (i * X.sz + j) < G.c.size := by omega
     have h4 : i * X.sz + j < min G.cs.length (G.c.size - G.off) := by omega
     simp [h1, h3, h4]
    ·have h3 : ¬ (G.off + (i * X.sz + j) = G.off + q) := by omega
     have h4 : ¬ (i * X.sz + j = q) := fun e => h2 e.symm
     simp [h1, h3, h4]
   ·have h4 : ¬ (i * X.sz + j = q) := by omega
    simp [h1, h4]
  ·intro t
   simp only [kil_lk]
   have := h.env t
   show MRep X _ s.bx _ (a.tmps.getD t undef)
   cases hm : mlk s.env t with
   | sb i j => simp [kilV, MRep]
   | sg i j z => simp [kilV, MRep]
   | _ => rw [hm] at this; simpa [kilV, MRep] using this
 ·exact hq.elim

theorem m_mcl (h : MSat X s a w G) {c : Call} {f d : Nat} {x' y' : Ax.X} (ho : o.op = .call c) (hc : c.callee = .value (.func f)) (hl : c.args.size = c.argTypes.size)
  (hx : (c.args.toList.zip c.argTypes.toList).mapM (fun p => resX P p.2 p.1) = some [x', y']) (hd : o.dst = some d) (hdn : d < X.n) (hq : mMcl (mev s.env x') (mev s.env y') P X.sz d f s k) : o.wp P a w (MPost X k) Q' := by

 have hev : ∃ p q, c.args.toList = [p, q] ∧ (∃ t, resX P t p = some x') ∧ ∃ t, resX P t q = some y' := by
  have hl' : c.args.toList.length = c.argTypes.toList.length := by simpa using hl
  revert hx hl'
  generalize c.args.toList = l1
  generalize c.argTypes.toList = l2
  intro hx hl'
  match l1, l2, hl' with
  | [], [], _ => simp at hx
  | [p], [t], _ => simp [List.mapM_cons, oB] at hx
  | [p, q], [t, u], _ =>
   simp only [List.zip_cons_cons, List.zip_nil_right, List.mapM_cons, List.mapM_nil, oD, oB, oP, oS] at hx
   obtain ⟨a1, h1, r1, ⟨a2, h2, r2, rfl, rfl⟩, h3⟩ := hx
   simp only [List.cons.injEq, and_true] at h3
   obtain ⟨rfl, rfl⟩ := h3
   exact ⟨p, q, rfl, ⟨t, h1⟩, u, h2⟩
  | p :: q :: r :: l, t :: u :: v :: m, _ =>
   exfalso
   simp only [List.zip_cons_cons, List.mapM_cons, oD, oB, oP, oS] at hx
   obtain ⟨a1, h1, r1, ⟨a2, h2, r2, ⟨a3, h3, r3, h4, rfl⟩, rfl⟩, h6⟩ := hx
   simp at h6
 obtain ⟨p, q, hpq, ⟨t1, hp⟩, t2, hqq⟩ := hev
 have ep := mev_rep h hp
 have eq := mev_rep h hqq
 unfold mMcl at hq
 split at hq
 ·next i j n e1 e2 =>
  obtain ⟨e', n', ⟨hcl, hA⟩, ⟨q1, q2⟩, hk⟩ := hq
  rw [e1] at ep
  rw [e2] at eq
  simp only [MRep] at ep eq
  obtain ⟨hy, hi, hj⟩ := ep
  obtain ⟨A, B, C, hF, hsub, hgo⟩ := h.cell hi hj q2 hy
  have hone := h.rep.one _ (List.mem_of_getElem? hy)
  have hargs : Array.map a.eval c.args = #[a.eval p, .int .i64 n] := by apply Array.ext'; simp [hpq, eq]
  have enter : (execOp a.eval o).run P w = .ok (.enter f #[a.eval p, .int .i64 n]) w := by
   obtain ⟨fn, h1, h2, h3⟩ := hcl
   have h2' : ¬ fn.body = none := by cases hb : fn.body <;> simp_all
   have h3' : ¬ fn.name = "runtime.NumGoroutine" := by simpa using h3
   rw [← hargs]
   simp [execOp, ho, resolve, hc, Act.eval, Deferred.ofValue, invoke, callFunc, h1, h2', h3']
  have hfit : (D.sub (D.at s.ds i) j 1 false).fits (a.eval p) := by
   cases hD : D.sub (D.at s.ds i) j 1 false with
   | ag l => rw [hD] at q1; cases q1
   | _ => simpa [D.fits] using hone
  have hnd := h.nd
  rw [hF, List.nodup_append, List.nodup_append] at hnd
  have hin : ∀ x ∈ B, x ∈ G.F := fun x hx => by rw [hF]; simp [hx]
  unfold Oper.wp
  rw [enter, Oper.upon_enter]
  refine (hA w (a.eval p) B (by rw [cells_one hone]; simpa using hsub) hfit hnd.2.1.1 (fun x hx => (h.fin x (hin x hx)).2)).mono ?_
  rintro e3 w' ⟨rfl, o1, o2, o3, o4, o5, F', o6, o7, o8⟩
  rw [cells_one hone] at o6
  have hACB : ∀ x ∈ A ++ C, x ∉ B := by
   intro x hx hB
   rcases List.mem_append.1 hx with hx | hx
   ·exact hnd.2.2 x hx x (by simp [hB]) rfl
   ·exact hnd.2.1.2.2 x hB x hx rfl
  have hACF : ∀ x ∈ A ++ C, x ∈ G.F := fun x hx => by
   rw [hF]; rcases List.mem_append.1 hx with hx | hx <;> simp [hx]
  have hltF : ∀ x ∈ G.F, x < w.heap.size := h.rep.lt
  obtain ⟨A2, C2, hm, hnd2, x1, x2⟩ := hgo w'.heap e' F' (a.eval p) (fun b hb => o5 b (hltF b (hACF b hb)) (hACB b hb)) o6
  have hcs : G.cs.set (i * X.sz + j) (a.eval p) = G.cs := by
   obtain ⟨hlt, hv⟩ := List.getElem?_eq_some_iff.1 hy
   rw [← hv]; simp
  rw [hcs] at x1
  rw [hd]
  have hds : d < a.tmps.size := by rw [h.tm]; exact hdn
  refine ⟨_, ⟨A2 ++ (F' ++ C2), G.cs, G.b, G.off, G.cap, G.c, G.e⟩, hk, h.dfr, by simp [Act.put, h.tm], o1.trans h.os, o2.trans h.tape, o3.trans h.output, Nat.le_trans h.size o4, ?_, h.f0, by simp [h.len], x1, x2, ?_, ?_, h.vsl, h.vsl0, h.vst, ?_, h.bst, ?_⟩
  ·intro x hx hn
   rw [o5 x (by have := h.size; omega) (fun hB => hn (h.fin x (hin x hB)).1)]
   exact h.old x hx hn
  ·rw [List.nodup_append] at hnd2
   refine List.nodup_append.2 ⟨hnd2.1, List.nodup_append.2 ⟨o7, hnd2.2.1, ?_⟩, ?_⟩
   ·rintro x hx y hy rfl
    exact hACB x ((hm x).1 (by simp [hy])) (o8 x hx).1
   ·rintro x hx y hy rfl
    rcases List.mem_append.1 hy with hy | hy
    ·exact hACB x ((hm x).1 (by simp [hx])) (o8 x hy).1
    ·exact hnd2.2.2 x hx x hy rfl
  ·intro x hx
   have hcase : x ∈ A ++ C ∨ x ∈ F' := by
    simp only [List.mem_append] at hx
    rcases hx with hx | hx | hx
    ·exact .inl ((hm x).1 (by simp [hx]))
    ·exact .inr hx
    ·exact .inl ((hm x).1 (by simp [hx]))
   rcases hcase with hx | hx
   ·obtain ⟨z1, c2, e2, z2⟩ := h.fin x (hACF x hx)
    exact ⟨z1, c2, e2, by rw [o5 x (hltF x (hACF x hx)) (hACB x hx)]; exact z2⟩
   ·exact ⟨(h.fin x (hin x (o8 x hx).1)).1, (o8 x hx).2⟩
  ·intro hbx
   obtain ⟨b1, b2, b3, b4⟩ := h.blk hbx
   refine ⟨by simp only; rw [o5 _ (Array.getElem?_eq_some_iff.1 b1).1 (fun hB => b4 (hin _ hB))]; exact b1, b2, b3, fun hb => ?_⟩
   have hcase : G.b ∈ A ++ C ∨ G.b ∈ F' := by
    simp only [List.mem_append] at hb
    rcases hb with hx | hx | hx
    ·exact .inl ((hm _).1 (by simp [hx]))
    ·exact .inr hx
    ·exact .inl ((hm _).1 (by simp [hx]))
   exact hcase.elim (fun hx => b4 (hACF _ hx)) (fun hx => b4 (hin _ (o8 _ hx).1))
  ·intro t
   rw [mput_get hds]
   simp only [mlk]
   split
   ·simp [MRep]
   ·exact h.env t
 ·next i j z n e1 e2 =>
  obtain ⟨e', n', ⟨hcl, hA⟩, q2, hk⟩ := hq
  rw [e1] at ep
  rw [e2] at eq
  simp only [MRep] at ep eq
  obtain ⟨⟨cv, hv, hcv⟩, hi, hj⟩ := ep
  obtain ⟨A, B, C, hF, hsub, hgo⟩ := h.cells hi hj q2
  have hargs : Array.map a.eval c.args = #[a.eval p, .int .i64 n] := by apply Array.ext'; simp [hpq, eq]
  have enter : (execOp a.eval o).run P w = .ok (.enter f #[a.eval p, .int .i64 n]) w := by
   obtain ⟨fn, h1, h2, h3⟩ := hcl
   have h2' : ¬ fn.body = none := by cases hb : fn.body <;> simp_all
   have h3' : ¬ fn.name = "runtime.NumGoroutine" := by simpa using h3
   rw [← hargs]
   simp [execOp, ho, resolve, hc, Act.eval, Deferred.ofValue, invoke, callFunc, h1, h2', h3']
  have hfit : (D.sub (D.at s.ds i) j z true).fits (a.eval p) := by
   cases hD : D.at s.ds i with
   | ag l => exact ⟨cv, hv⟩
   | _ => rw [hD] at q2; simp [D.isAg] at q2
  have hcc : (a.eval p).cells.toList = (G.cs.drop (i * X.sz + j)).take z := by rw [hv]; exact hcv
  have hnd := h.nd
  rw [hF, List.nodup_append, List.nodup_append] at hnd
  have hin : ∀ x ∈ B, x ∈ G.F := fun x hx => by rw [hF]; simp [hx]
  unfold Oper.wp
  rw [enter, Oper.upon_enter]
  refine (hA w (a.eval p) B (by rw [hcc]; exact hsub) hfit hnd.2.1.1 (fun x hx => (h.fin x (hin x hx)).2)).mono ?_
  rintro e3 w' ⟨rfl, o1, o2, o3, o4, o5, F', o6, o7, o8⟩
  rw [hcc] at o6
  have hACB : ∀ x ∈ A ++ C, x ∉ B := by
   intro x hx hB
   rcases List.mem_append.1 hx with hx | hx
   ·exact hnd.2.2 x hx x (by simp [hB]) rfl
   ·exact hnd.2.1.2.2 x hB x hx rfl
  have hACF : ∀ x ∈ A ++ C, x ∈ G.F := fun x hx => by
   rw [hF]; rcases List.mem_append.1 hx with hx | hx <;> simp [hx]
  have hltF : ∀ x ∈ G.F, x < w.heap.size := h.rep.lt
  obtain ⟨A2, C2, hm, hnd2, x1, x2⟩ := hgo w'.heap e' F' (fun b hb => o5 b (hltF b (hACF b hb)) (hACB b hb)) o6
  rw [hd]
  have hds : d < a.tmps.size := by rw [h.tm]; exact hdn
  refine ⟨_, ⟨A2 ++ (F' ++ C2), G.cs, G.b, G.off, G.cap, G.c, G.e⟩, hk, h.dfr, by simp [Act.put, h.tm], o1.trans h.os, o2.trans h.tape, o3.trans h.output, Nat.le_trans h.size o4, ?_, h.f0, by simp [h.len], x1, x2, ?_, ?_, h.vsl, h.vsl0, h.vst, ?_, h.bst, ?_⟩
  ·intro x hx hn
   rw [o5 x (by have := h.size; omega) (fun hB => hn (h.fin x (hin x hB)).1)]
   exact h.old x hx hn
  ·rw [List.nodup_append] at hnd2
   refine List.nodup_append.2 ⟨hnd2.1, List.nodup_append.2 ⟨o7, hnd2.2.1, ?_⟩, ?_⟩
   ·rintro x hx y hy rfl
    exact hACB x ((hm x).1 (by simp [hy])) (o8 x hx).1
   ·rintro x hx y hy rfl
    rcases List.mem_append.1 hy with hy | hy
    ·exact hACB x ((hm x).1 (by simp [hx])) (o8 x hy).1
    ·exact hnd2.2.2 x hx x hy rfl
  ·intro x hx
   have hcase : x ∈ A ++ C ∨ x ∈ F' := by
    simp only [List.mem_append] at hx
    rcases hx with hx | hx | hx
    ·exact .inl ((hm x).1 (by simp [hx]))
    ·exact .inr hx
    ·exact .inl ((hm x).1 (by simp [hx]))
   rcases hcase with hx | hx
   ·obtain ⟨z1, c2, e2, z2⟩ := h.fin x (hACF x hx)
    exact ⟨z1, c2, e2, by rw [o5 x (hltF x (hACF x hx)) (hACB x hx)]; exact z2⟩
   ·exact ⟨(h.fin x (hin x (o8 x hx).1)).1, (o8 x hx).2⟩
  ·intro hbx
   obtain ⟨b1, b2, b3, b4⟩ := h.blk hbx
   refine ⟨by simp only; rw [o5 _ (Array.getElem?_eq_some_iff.1 b1).1 (fun hB => b4 (hin _ hB))]; exact b1, b2, b3, fun hb => ?_⟩
   have hcase : G.b ∈ A ++ C ∨ G.b ∈ F' := by
    simp only [List.mem_append] at hb
    rcases hb with hx | hx | hx
    ·exact .inl ((hm _).1 (by simp [hx]))
    ·exact .inr hx
    ·exact .inl ((hm _).1 (by simp [hx]))
   exact hcase.elim (fun hx => b4 (hACF _ hx)) (fun hx => b4 (hin _ (o8 _ hx).1))
  ·intro t
   rw [mput_get hds]
   simp only [mlk]
   split
   ·simp [MRep]
   ·exact h.env t
 ·exact hq.elim

theorem m_box (h : MSat X s a w G) {e u1 : TypeId} {d z : Nat} {x : Operand} {x' : Ax.X} (ho : o.op = .box e x) (hx : resX P u1 x = some x') (hd : o.dst = some d) (hdn : d < X.n)
  (hq : mBox (mev s.env x') X.sl X.sz z d s k) : o.wp P a w (MPost X k) Q' := by
 have ex := mev_rep h hx
 unfold mBox at hq
 split at hq
 ·next e1 =>
  rw [e1] at ex
  simp only [MRep] at ex
  obtain ⟨⟨q1, q2, q3, q4, q5⟩, hk⟩ := hq
  have hrun : (execOp a.eval o).run P w = .ok (.value (.pointer (some ⟨w.heap.size, 0, none⟩))) { w with heap := w.heap.push (.cells X.v.cells e (0, 0)) } := by
   simp [execOp, ho, ex, Instr.box, newVar, newRow]
  unfold Oper.wp
  rw [hrun, Oper.upon_value, hd]
  have hds : d < a.tmps.size := by rw [h.tm]; exact hdn
  have hold : ∀ y, y < w.heap.size → (w.heap.push (.cells X.v.cells e (0, 0)))[y]? = w.heap[y]? := fun y hy => by rw [Array.getElem?_push, if_neg (by omega)]
  have hvc := h.vst q1
  have hltF : ∀ x ∈ G.F, x < w.heap.size := h.rep.lt
  have hcsl : X.v.cells.size = G.cs.length := by rw [← hvc]; simp
  refine ⟨_, ⟨G.F, G.cs, w.heap.size, 0, G.cap, X.v.cells, e⟩, hk, h.dfr, by simp [Act.put, h.tm], h.os, h.tape, h.output, by have := h.size; simp; omega, ?_, h.f0, h.len, h.rep.frame fun y hy => hold y (hltF y hy), h.sz, h.nd, ?_, by simp [q1], h.vsl0, h.vst, ?_, ?_, ?_⟩
  ·intro y hy hn
   simp only
   rw [hold y (by have := h.size; omega)]
   exact h.old y hy hn
  ·intro y hy
   obtain ⟨z1, c2, e2, z2⟩ := h.fin y hy
   exact ⟨z1, c2, e2, by simp only; rw [hold y (hltF y hy)]; exact z2⟩
  ·intro _
   refine ⟨by simp, by simp only; omega, ?_, fun hb => Nat.lt_irrefl _ (hltF _ hb)⟩
   simp only [List.drop_zero]
   rw [List.take_of_length_le (by rw [← hvc]; exact Nat.le_refl _)]
   exact hvc
  ·intro _ _; exact h.size
  ·intro t
   rw [mput_get hds]
   simp only [mlk]
   split
   ·simp only [MRep]
    have := h.len
    exact ⟨trivial, by simp, by omega, q4⟩
   ·rcases kilP_lk (env := s.env) (t := t) with ⟨h1, h2⟩ | h1
    ·rw [h1]
     have := h.env t
     rcases h2 with ⟨x, h2⟩ | h2 <;> rw [h2] at this ⊢ <;> simpa [MRep] using this
    ·rw [h1]; simp [MRep]
 ·exact hq.elim

theorem m_op {n : Nat} {r : ROp} (hres : resOp P .no n o = some r) (hdl : ∀ d, o.dst = some d → d < X.n) (h : MSat X s a w G) (hq : mOp P X.sl X.sz r s k) : o.wp P a w (MPost X k) Q' := by
 unfold resOp at hres
 split at hres
 ·next x ho =>
  simp only [oD, oB, oP, oS, guard_some] at hres
  obtain ⟨d, hd, _, _, X', hX, rfl⟩ := hres
  exact m_pure h hd (hdl _ hd) (by simp [execOp, ho]) (mev_rep h hX) hq
 ·next x ho =>
  simp only [oD, oB, oP, oS, guard_some] at hres
  obtain ⟨d, hd, _, _, X', hX, rfl⟩ := hres
  exact m_pure h hd (hdl _ hd) (by simp [execOp, ho]) (mev_rep h hX) hq
 ·next c x y ho =>
  simp only [oD, oB, oP, oS, guard_some] at hres
  obtain ⟨d, hd, _, _, C, hC, X, hX, Y, hY, rfl⟩ := hres
  exact hq.elim
 ·next e x ho =>
  simp only [oD, oB, oP, oS, guard_some] at hres
  obtain ⟨d, hd, _, _, s', hs, X', hX, rfl⟩ := hres
  exact m_box h ho hX hd (hdl _ hd) hq
 ·next e ho =>
  simp only [oD, oB, guard_some] at hres
  obtain ⟨d, hd, _, _, hres⟩ := hres
  unfold zerOp at hres
  split at hres
  ·injection hres with hres
   subst hres
   exact hq.elim
  ·simp only [oD, oB, oP, oS] at hres
   obtain ⟨s, hs, z, hz, rfl⟩ := hres
   exact hq.elim
 ·next t x ho =>
  simp only [oD, oB, oP, oS, guard_some] at hres
  obtain ⟨d, hd, _, _, s', hs, ag, hag, _, h1, X', hX, rfl⟩ := hres
  have ex := mev_rep h hX
  simp only [mOp] at hq
  unfold mLd at hq
  split at hq
  ·next i j e1 =>
   rcases hq with ⟨⟨rfl, rfl⟩, hk⟩ | ⟨⟨rfl, hz1, hz2⟩, hk⟩
   ·skip
    rw [e1] at ex
    simp only [MRep] at ex
    obtain ⟨hbx, hpv, hi, hj⟩ := ex
    obtain ⟨b1, b2, b3, b4⟩ := h.blk hbx
    have hcl := h.cslen
    have hle : i * X.sz + X.sz ≤ X.len * X.sz := by
     have := Nat.mul_le_mul_right X.sz (show i + 1 ≤ X.len by omega)
     rw [Nat.add_mul] at this; omega
    have hlt : i * X.sz + j < G.cs.length := by omega
    have hcell : w.cell? ⟨G.b, G.off + (i * X.sz + j), none⟩ = some G.cs[i * X.sz + j] := by
     rw [cell_at b1]
     have h2 : G.cs[i * X.sz + j]? = some G.cs[i * X.sz + j] := List.getElem?_eq_getElem hlt
     conv at h2 => lhs; rw [← b3]
     rw [List.getElem?_take_of_lt hlt, List.getElem?_drop] at h2
     rw [← Array.getElem?_toList]; exact h2
    obtain ⟨v, v1, v2, v3, v4⟩ := run_ld (P := P) (w := w) (b := G.b) (off := G.off + (i * X.sz + j)) (cs := [G.cs[i * X.sz + j]]) hs hag rfl (fun i' v hv => by
     cases i' with
     | zero => simp only [List.getElem?_cons_zero, oS] at hv; subst hv; exact hcell
     | succ n => simp at hv) (fun _ => rfl)
    have hv := v4 rfl
    simp only [List.cons.injEq, and_true] at hv
    refine m_pure h hd (hdl _ hd) (v := v) (by simp [execOp, ho, hpv, v1]) ?_ hk
    simp only [MRep]
    exact ⟨by rw [← hv]; exact List.getElem?_eq_getElem hlt, hi, hj⟩
   ·rw [e1] at ex
    simp only [MRep] at ex
    obtain ⟨hbx, hpv, hi, hj⟩ := ex
    obtain ⟨b1, b2, b3, b4⟩ := h.blk hbx
    have hcl := h.cslen
    have hle : i * X.sz + X.sz ≤ X.len * X.sz := by
     have := Nat.mul_le_mul_right X.sz (show i + 1 ≤ X.len by omega)
     rw [Nat.add_mul] at this; omega
    have hil : i < s.ds.length := by rw [h.len]; exact hi
    have hzz : j + s' ≤ X.sz := by
     rw [D.at_eq hil, h.sz _ (List.getElem_mem hil)] at hz1
     exact hz1
    obtain ⟨v, v1, v2, v3, v4⟩ := run_ld (P := P) (w := w) (b := G.b) (off := G.off + (i * X.sz + j)) (cs := (G.cs.drop (i * X.sz + j)).take s') hs hag (by simp; omega) (fun i' v hv => by
     rw [List.getElem?_take] at hv
     split at hv
     ·next hlt' =>
      rw [List.getElem?_drop] at hv
      have hlt : i * X.sz + j + i' < G.cs.length := by omega
      rw [show G.off + (i * X.sz + j) + i' = G.off + (i * X.sz + j + i') by omega, cell_at b1]
      have h2 := hv
      conv at h2 => lhs; rw [← b3]
      rw [List.getElem?_take_of_lt hlt, List.getElem?_drop] at h2
      rw [← Array.getElem?_toList]; exact h2
     ·cases hv) (fun hf => by cases hf)
    refine m_pure h hd (hdl _ hd) (v := v) (by simp [execOp, ho, hpv, v1]) ?_ hk
    simp only [MRep]
    exact ⟨⟨_, v3 rfl, by simp⟩, hi, hzz⟩
  ·exact hq.elim
 ·next t p x ho =>
  simp only [oD, oB, oP, oS, guard_some] at hres
  obtain ⟨_, hd, s, hs, A, hA, X, hX, rfl⟩ := hres
  exact m_st h ho (by simpa using hd) hA hX hs hq
 ·next x ho =>
  simp only [oD, oB, oP, oS, guard_some] at hres
  obtain ⟨d, hd, _, _, X, hX, rfl⟩ := hres
  exact hq.elim
 ·next op t x y u ho =>
  simp only [oD, oB, oP, guard_some] at hres
  obtain ⟨d, hd, _, _, hres⟩ := hres
  split at hres <;> (try simp only [oB, oS] at hres)
  ·obtain ⟨X', hX, Y, hY, rfl⟩ := hres
   have ex := mev_rep h hX
   have ey := mev_rep h hY
   simp only [mOp] at hq
   unfold mBin at hq
   split at hq
   ·next p q e1 e2 =>
    rw [e1] at ex
    rw [e2] at ey
    simp only [MRep] at ex ey
    obtain ⟨v, hr, hk, h1⟩ := binV_run (P := P) (t := t) hq w
    have hp : p.oneCell' = true ∧ p ≠ .nilIface := by
     unfold binV at hq
     split at hq <;> simp_all [Value.oneCell']
    refine m_pure h hd (hdl _ hd) (v := v) ?_ (by simp [MRep]) hk
    simp [execOp, ho, ex, ey, eqGuard_run hp.1 hp.2, hr]
   ·exact hq.elim
  ·obtain ⟨X', hX, Y, hY, rfl⟩ := hres
   have ex := mev_rep h hX
   have ey := mev_rep h hY
   simp only [mOp] at hq
   unfold mBin at hq
   split at hq
   ·next p q e1 e2 =>
    rw [e1] at ex
    rw [e2] at ey
    simp only [MRep] at ex ey
    obtain ⟨v, hr, hk, h1⟩ := binV_run (P := P) (t := t) hq w
    have hp : p.oneCell' = true ∧ p ≠ .nilIface := by
     unfold binV at hq
     split at hq <;> simp_all [Value.oneCell']
    refine m_pure h hd (hdl _ hd) (v := v) ?_ (by simp [MRep]) hk
    simp [execOp, ho, ex, ey, eqGuard_run hp.1 hp.2, hr]
   ·exact hq.elim
  ·next ht _ _ => obtain ⟨X, hX, Y, hY, rfl⟩ := hres; exact hq.elim
  ·obtain ⟨X, hX, Y, hY, rfl⟩ := hres; exact hq.elim
  ·obtain ⟨X, hX, Y, hY, rfl⟩ := hres; exact hq.elim
  ·obtain ⟨X, hX, Y, hY, rfl⟩ := hres; exact hq.elim
  ·split at hres <;> (try simp only [oB, oS] at hres)
   ·obtain ⟨X, hX, Y, hY, rfl⟩ := hres; exact hq.elim
   ·subst hres; exact hq.elim
  ·split at hres <;> (try simp only [oB, oS] at hres)
   ·obtain ⟨X, hX, Y, hY, rfl⟩ := hres; exact hq.elim
   ·subst hres; exact hq.elim
  ·subst hres; exact hq.elim
 ·next op t x ho =>
  simp only [oD, oB, oP, oS, guard_some] at hres
  obtain ⟨d, hd, _, _, X, hX, rfl⟩ := hres
  exact hq.elim
 ·next s t x ho =>
  simp only [oD, oB, oP, guard_some] at hres
  obtain ⟨d, hd, _, _, hres⟩ := hres
  split at hres <;> (try simp only [oB, oS] at hres)
  ·obtain ⟨X, hX, rfl⟩ := hres
   exact hq.elim
  ·split at hres <;> simp only [oB, oS] at hres
   ·obtain ⟨X, hX, rfl⟩ := hres
    exact hq.elim
   ·subst hres; exact hq.elim
  ·subst hres; exact hq.elim
 ·next t l c ho =>
  simp only [oD, oB, oP, oS, guard_some] at hres
  obtain ⟨d, hd, _, _, e, he, i, hi, z, hz, L, hL, C, hC, rfl⟩ := hres
  have ht : P.underlying t = some (.slice e) := by
   unfold elemOf at he
   split at he
   ·next e' h' => injection he with he; subst he; exact h'
   ·cases he
  exact hq.elim
 ·next t x lo hi ho =>
  simp only [oD, oB, oP, guard_some] at hres
  obtain ⟨d, hd, _, _, Lo, hLo, Hi, hHi, hres⟩ := hres
  have l1 : ∀ y, lo = some y → ∃ Y, Lo = some Y ∧ resX P 0 y = some Y := by
   rintro y rfl
   simp only [Option.map_eq_some_iff] at hLo
   obtain ⟨Y, h1, rfl⟩ := hLo
   exact ⟨Y, rfl, h1⟩
  have l2 : lo = none → Lo = none := by rintro rfl; simpa using hLo.symm
  have l3 : ∀ y, hi = some y → ∃ Y, Hi = some Y ∧ resX P 0 y = some Y := by
   rintro y rfl
   simp only [Option.map_eq_some_iff] at hHi
   obtain ⟨Y, h1, rfl⟩ := hHi
   exact ⟨Y, rfl, h1⟩
  have l4 : hi = none → Hi = none := by rintro rfl; simpa using hHi.symm
  split at hres <;> simp only [oB, oS] at hres
  ·obtain ⟨s, hs, X, hX, rfl⟩ := hres
   exact hq.elim
  ·obtain ⟨X, hX, rfl⟩ := hres
   exact hq.elim
  ·subst hres; exact hq.elim
 ·next t x lo hi mx ho =>
  simp only [oD, oB, oP, guard_some] at hres
  obtain ⟨d, hd, _, _, hres⟩ := hres
  split at hres
  ·next e ht =>
   split at hres
   ·simp only [oB, oS] at hres
    obtain ⟨s, hs, X, hX, rfl⟩ := hres
    exact hq.elim
   ·simp only [oS] at hres; subst hres; exact hq.elim
  ·simp only [oS] at hres; subst hres; exact hq.elim
 ·next fn first captured ho =>
  simp only [oD, oB, oP, guard_some] at hres
  obtain ⟨d, hd, _, _, hres⟩ := hres
  split at hres
  ·next f hf =>
   simp only [oB, oS] at hres
   obtain ⟨Xs, hXs, rfl⟩ := hres
   exact hq.elim
  ·simp only [oS] at hres; subst hres; exact hq.elim
 ·next t x i ho =>
  simp only [oD, oB, oP, guard_some] at hres
  obtain ⟨d, hd, _, _, hres⟩ := hres
  split at hres
  ·next fs ht =>
   simp only [oB, oS, guard_some] at hres
   obtain ⟨f, hf, z, hz, _, hz0, X', hX, rfl⟩ := hres
   have ex := mev_rep h hX
   have hrun : ∀ (b p : Nat) (w' : World), a.eval x = .pointer (some ⟨b, p, none⟩) → (execOp a.eval o).run P w' = .ok (.value (.pointer (some ⟨b, p + f.offset, none⟩))) w' := by
    intro b p w' hv
    have hz0 : z ≠ 0 := by simpa using hz0
    simp [execOp, ho, hv, Instr.fieldAt, run_underlying ht, hf, Instr.sureAddr, fieldPlace, run_sz hz, hz0, add_mid]
   simp only [mOp] at hq
   unfold mFa at hq
   split at hq
   ·next i j e1 =>
    rw [e1] at ex
    simp only [MRep] at ex
    refine m_pure h hd (hdl _ hd) (hrun _ _ w ex.2.1) ?_ hq.2
    simp only [MRep]
    exact ⟨ex.1, by congr 3; omega, ex.2.2.1, hq.1⟩
   ·exact hq.elim
  ·cases hres
 ·next t x i ho =>
  simp only [oD, oB, oP, guard_some] at hres
  obtain ⟨d, hd, _, _, hres⟩ := hres
  split at hres
  ·next fs ht =>
   simp only [oB, oS, guard_some] at hres
   obtain ⟨f, hf, s, hs, ag, hag, _, h1, X, hX, rfl⟩ := hres
   exact hq.elim
  ·cases hres
 ·next t x i ho =>
  simp only [oD, oB, oP, guard_some] at hres
  obtain ⟨d, hd, _, _, hres⟩ := hres
  split at hres
  ·next e ht =>
   simp only [oB, oS] at hres
   obtain ⟨s', hs, X', hX, I, hI, rfl⟩ := hres
   have ex := mev_rep h hX
   have ei := mev_rep h hI
   simp only [mOp] at hq
   unfold mIa at hq
   split at hq
   ·next kd n e1 e2 =>
    obtain ⟨⟨q1, q2, rfl, q3, q4, q5⟩, hk⟩ := hq
    rw [e1] at ex
    rw [e2] at ei
    simp only [MRep] at ex ei
    obtain ⟨z1, _⟩ := h.vsl q1 q2
    have hlen := h.len
    have := run_index (P := P) ht hs (b := G.b) (off := G.off) (len := X.len) (cap := G.cap) (kd := kd) (n := n) q4 (by omega) w
    refine m_pure h hd (hdl _ hd) (v := .pointer (some ⟨G.b, G.off + n.toNat * X.sz, none⟩)) (by simp [execOp, ho, ei, ex, z1, this]) ?_ hk
    simp only [MRep]
    exact ⟨q2, by simp, by omega, q3⟩
   ·exact hq.elim
  ·simp only [oS] at hres; subst hres; exact hq.elim
 ·next t x i ho =>
  simp only [oD, oB, oP, guard_some] at hres
  obtain ⟨d, hd, _, _, hres⟩ := hres
  split at hres
  ·next ht =>
   simp only [oB, oS] at hres
   obtain ⟨X, hX, I, hI, rfl⟩ := hres
   exact hq.elim
  ·simp only [oS] at hres; subst hres; exact hq.elim
 ·next x i ho =>
  simp only [oD, oB, oP, oS, guard_some] at hres
  obtain ⟨d, hd, _, _, X, hX, rfl⟩ := hres
  exact hq.elim
 ·next t l ps ho =>
  simp only [oD, oB, oP, oS, guard_some] at hres
  obtain ⟨d, hd, _, _, e, he, s, hs, z, hz, L, hL, rfl⟩ := hres
  exact hq.elim
 ·next t ps ho =>
  simp only [oD, oB, oP, guard_some] at hres
  obtain ⟨d, hd, _, _, hres⟩ := hres
  split at hres
  ·next fs ht =>
   simp only [oB, oS] at hres
   obtain ⟨_, _, z, hz, L, hL, rfl⟩ := hres
   exact hq.elim
  ·simp only [oS] at hres; subst hres; exact hq.elim
 ·next c ho =>
  split at hres
  ·next f hc =>
   simp only [oD, oB, guard_some] at hres
   obtain ⟨_, _, _, hl, Xs, hXs, hres⟩ := hres
   split at hres
   ·split at hres
    ·next d x y hd =>
     simp only [oP, oS] at hres
     subst hres
     exact m_mcl h ho hc (by simpa using hl) hXs hd (hdl _ hd) hq
    ·cases hres
   split at hres
   ·split at hres
    ·simp only [oP, oS] at hres
     subst hres
     exact hq.elim
    ·cases hres
   split at hres
   ·split at hres
    ·simp only [oP, oS] at hres
     subst hres
     exact hq.elim
    ·cases hres
   split at hres
   ·split at hres
    ·simp only [oP, oS] at hres
     subst hres
     exact hq.elim
    ·cases hres
   split at hres
   ·simp only [oP, oS] at hres
    subst hres
    exact hq.elim
   ·simp only [oP, oS] at hres
    subst hres
    exact hq.elim
  ·next x _ hc =>
   simp only [oD, oB, oP, oS, guard_some] at hres
   obtain ⟨_, _, _, hl, X, hX, Xs, hXs, rfl⟩ := hres
   exact hq.elim
  ·next hc =>
   simp only [oD, oB, guard_some] at hres
   obtain ⟨d, hd, _, _, hres⟩ := hres
   split at hres
   ·next x t ha hta =>
    have ha' : c.args = #[x] := by apply Array.ext'; simpa using ha
    have hta' : c.argTypes = #[t] := by apply Array.ext'; simpa using hta
    split at hres <;> simp only [oB, oP, oS] at hres
    ·obtain ⟨X', hX, rfl⟩ := hres
     exact hq.elim
    ·obtain ⟨X', hX, rfl⟩ := hres
     have ex := mev_rep h hX
     simp only [mOp] at hq
     unfold mLen at hq
     split at hq
     ·next e1 =>
      rw [e1] at ex
      simp only [MRep] at ex
      obtain ⟨p, cap, hv⟩ := h.vsl0 hq.1
      have hv2 : a.eval x = .slice p X.len cap := by rw [ex, hv]
      rename_i e' _ _ hund _
      refine m_pure h hd (hdl _ hd) (v := .int .i64 s.ds.length) ?_ (by simp [MRep]) hq.2
      rw [h.len]
      simp [execOp, ho, resolve, hc, ha', hta', hv2, invoke, builtin, Builtin.len_, run_underlying (by assumption), goInt]
     ·exact hq.elim
    ·subst hres; exact hq.elim
   ·cases hres
  ·next hc =>
   simp only [oD, oB, guard_some] at hres
   obtain ⟨d, hd, _, _, hres⟩ := hres
   split at hres
   ·next x y t u ha hta =>
    simp only [oB, oP, oS] at hres
    obtain ⟨X, hX, Y, hY, rfl⟩ := hres
    exact hq.elim
   ·cases hres
  ·next hc =>
   simp only [oD, oB, guard_some] at hres
   obtain ⟨d, hd, _, _, hres⟩ := hres
   split at hres
   ·next x y t u ha hta =>
    simp only [oB, oP, oS] at hres
    obtain ⟨X, hX, Y, hY, rfl⟩ := hres
    exact hq.elim
   ·cases hres
  ·next hc =>
   simp only [oD, oB, guard_some] at hres
   obtain ⟨d, hd, _, _, hres⟩ := hres
   split at hres
   ·next s x t u ha hta =>
    have ha' : c.args = #[s, x] := by apply Array.ext'; simpa using ha
    have hta' : c.argTypes = #[t, u] := by apply Array.ext'; simpa using hta
    split at hres <;> simp only [oB, oP, oS, guard_some] at hres
    ·obtain ⟨i, hi, _, htu, z, hz, X, hX, Y, hY, rfl⟩ := hres
     have htu : t = u := by simpa using htu
     subst htu
     exact hq.elim
    ·subst hres; exact hq.elim
   ·cases hres
  ·next hc =>
   simp only [oD, oB, guard_some] at hres
   obtain ⟨_, _, hres⟩ := hres
   split at hres
   ·split at hres <;> simp only [oB, oP, oS, guard_some] at hres
    ·obtain ⟨s, hs, _, htu, X, hX, Y, hY, rfl⟩ := hres
     exact hq.elim
    ·subst hres; exact hq.elim
   ·cases hres
  ·simp only [oP, oS] at hres; subst hres; exact hq.elim
 ·simp only [oP, oS] at hres; subst hres; exact hq.elim

def MPostE (X : MFix) (K : Exit → MS → Prop) (e : Exit) (a : Act) (w : World) : Prop := ∃ s G, K e s ∧ MSat X s a w G

theorem mOps_sound {ops : Array Oper} {K : MS → Prop} : ∀ (l : List Oper) (R : List RO) (i : Nat) (s : MS) (a : Act) (w : World) (G : MG), (∀ j, l[j]? = ops[i + j]?) → l.mapM (resRO P .no X.n ops) = some R → MSat X s a w G →
  mOps P X.sl X.sz R s K → wpOps P ops (MPostE X (fun e s => e = .normal ∧ K s)) (List.range' i l.length) a w
 | [], R, i, s, a, w, G, _, hR, hs, hq => by
  simp at hR
  subst hR
  exact ⟨s, G, ⟨rfl, hq⟩, hs⟩
 | o :: l, R, i, s, a, w, G, hl, hR, hs, hq => by
  simp only [List.mapM_cons, oD, oB, oP, oS] at hR
  obtain ⟨r, hr, R', hR', rfl⟩ := hR
  have h0 : ops[i]? = some o := by simpa using (hl 0).symm
  have hl' : ∀ j, l[j]? = ops[i + 1 + j]? := fun j => by have := hl (j + 1); simpa [Nat.add_assoc, Nat.add_comm 1 j] using this
  simp only [lK, List.range'_succ, wpOps, h0]
  unfold resRO at hr
  simp only [oD, oB, guard_some] at hr
  obtain ⟨op, hop, _, h1, _, h2, hr⟩ := hr
  have hdl : ∀ d, o.dst = some d → d < X.n := by
   intro d hd
   rw [hd] at h2
   simpa using h2
  split at hr
  ·next hg =>
   simp only [oP, oS] at hr
   subst hr
   simp only [mOps] at hq
   have hw : Region.wanted o (yielded ops a.tmps) = true := by simp [Region.wanted, hg]
   simp only [hw, if_true]
   refine .inl (Oper.wp_mono ?_ (m_op hop hdl hs hq))
   rintro a' w' ⟨s', G', hk, hs'⟩
   exact mOps_sound l R' (i + 1) s' a' w' G' hl' hR' hs' hk
  ·simp only [oB, oP, oS] at hr
   obtain ⟨_, _, _, _, rfl⟩ := hr
   simp only [mOps] at hq

theorem ment_sat {s s' : MS} {a : Act} {w : World} {G : MG} (he : MEnt s s') (h : MSat X s a w G) : MSat X s' a w G := by
 obtain ⟨bx, ds, env⟩ := s'
 obtain ⟨e1, e2, e3⟩ := he
 simp only at e1 e2 e3
 subst e1 e2
 refine ⟨h.dfr, h.tm, h.os, h.tape, h.output, h.size, h.old, h.f0, h.len, h.rep, h.sz, h.nd, h.fin, h.vsl, h.vsl0, h.vst, h.blk, h.bst, fun t => ?_⟩
 simp only
 rcases e3 t with h1 | h1
 ·rw [h1]; simp [MRep]
 ·rw [h1]; exact h.env t

theorem mR_sound : ∀ (c : Code) (rc : RC) (s : MS) (K : Exit → MS → Prop) (a : Act) (w : World) (G : MG), resD P .no X.n c = some rc → MSat X s a w G → mR P X.sl X.sz rc s K → c.wp P (MPostE X K) a w := by
 intro c
 induction c with
 | skip =>
  intro rc s K a w G hr hs hq
  simp only [resD, oS] at hr
  subst hr
  exact wp_skip ⟨s, G, hq, hs⟩
 | region id ops draw =>
  intro rc s K a w G hr hs hq
  simp only [resD, oD, oB] at hr
  obtain ⟨R, hR, hr⟩ := hr
  split at hr
  ·simp only [oP, oS] at hr
   subst hr
   cases draw with
   | true => exact hq.elim
   | false =>
    simp only [mR] at hq
    refine wp_mono (Q := MPostE X (fun e s => e = .normal ∧ K .normal s)) (wp_region ?_) ?_
    ·have := mOps_sound (P := P) (ops := ops) (K := K .normal) ops.toList R 0 s a w G (by simp) hR hs hq
     simpa [List.range_eq_range'] using this
    ·rintro e a' w' ⟨s', G', ⟨rfl, hk⟩, hs'⟩
     exact ⟨s', G', hk, hs'⟩
  ·split at hr
   ·simp only [oP, oS] at hr
    subst hr
    cases draw with
    | true => exact hq.elim
    | false => simp at *
   ·split at hr
    ·simp only [oP, oS] at hr
     subst hr
     exact hq.elim
    ·cases hr
 | seq x y ihx ihy =>
  intro rc s K a w G hr hs hq
  simp only [resD, oD, oB, oP, oS] at hr
  obtain ⟨x', hx, y', hy, rfl⟩ := hr
  refine wp_seq (wp_mono (ihx x' s _ a w G hx hs hq) ?_)
  rintro e a1 w1 ⟨s1, G1, hk, hs1⟩
  cases e with
  | normal => exact ihy y' s1 K a1 w1 G1 hy hs1 hk
  | exit i => exact ⟨s1, G1, hk, hs1⟩
  | goto l => exact ⟨s1, G1, hk, hs1⟩
  | ret => exact ⟨s1, G1, hk, hs1⟩
  | panic c => exact ⟨s1, G1, hk, hs1⟩
  | outgrown => exact ⟨s1, G1, hk, hs1⟩
 | cond x p q ihp ihq =>
  intro rc s K a w G hr hs hq
  simp only [resD, oD, oB, oP, oS] at hr
  obtain ⟨X', hX, p', hp, q', hq', rfl⟩ := hr
  have he := mev_rep hs hX
  simp only [mR] at hq
  unfold mCond at hq
  split at hq
  ·next t hc =>
   rw [hc] at he
   simp only [MRep] at he
   exact wp_cond_split he (fun e => ihp p' s K a w G hp hs (hq.1 e)) (fun e => ihq q' s K a w G hq' hs (hq.2 e))
  ·exact hq.elim
 | block id c ih =>
  intro rc s K a w G hr hs hq
  simp only [resD, oD, oB, oP, oS] at hr
  obtain ⟨c', hc, rfl⟩ := hr
  refine wp_block (wp_mono (ih c' s _ a w G hc hs hq) ?_)
  rintro e a1 w1 ⟨s1, G1, hk, hs1⟩
  cases e with
  | exit i =>
   simp only [mblk] at hk
   simp only [Exit.inBlock]
   split
   ·next h => rw [if_pos h] at hk; exact ⟨s1, G1, hk, hs1⟩
   ·next h => rw [if_neg h] at hk; exact ⟨s1, G1, hk, hs1⟩
  | normal => exact ⟨s1, G1, hk, hs1⟩
  | goto l => exact ⟨s1, G1, hk, hs1⟩
  | ret => exact ⟨s1, G1, hk, hs1⟩
  | panic c => exact ⟨s1, G1, hk, hs1⟩
  | outgrown => exact ⟨s1, G1, hk, hs1⟩
 | loop c ih =>
  intro rc s K a w G hr hs hq
  simp only [resD, oD, oB, oP, oS] at hr
  obtain ⟨c', hc, rfl⟩ := hr
  obtain ⟨I, ⟨m0, s0, hE, hI⟩, hround⟩ := hq
  refine wp_loop_ghost (fun m a w => ∃ s G, I m s ∧ MSat X s a w G) m0 ⟨s0, G, hI, ment_sat hE hs⟩ ?_
  rintro m a1 w1 ⟨s1, G1, h1, hs1⟩
  have := ih c' s1 _ a1 w1 G1 hc hs1 (hround m s1 h1)
  refine wp_mono this ?_
  rintro e a2 w2 ⟨s2, G2, hk, hs2⟩
  cases e with
  | normal =>
   obtain ⟨m', s3, h3, h4, h5⟩ := hk
   exact ⟨m', h5, s3, G2, h4, ment_sat h3 hs2⟩
  | exit i => exact ⟨s2, G2, hk, hs2⟩
  | goto l => exact ⟨s2, G2, hk, hs2⟩
  | ret => exact ⟨s2, G2, hk, hs2⟩
  | panic c => exact ⟨s2, G2, hk, hs2⟩
  | outgrown => exact ⟨s2, G2, hk, hs2⟩
 | exit id =>
  intro rc s K a w G hr hs hq
  simp only [resD, oS] at hr
  subst hr
  exact wp_exit ⟨s, G, hq, hs⟩
 | ret =>
  intro rc s K a w G hr hs hq
  simp only [resD, oS] at hr
  subst hr
  exact wp_ret ⟨s, G, hq, hs⟩
 | _ =>
  intro rc s K a w G hr hs hq
  simp only [resD, oS] at hr
  subst hr
  exact hq.elim

def mEnd (r : Nat) (bx : Bool) (ds' : List D) (n' : Int) (e : Exit) (s : MS) : Prop :=
 match e with
 | .normal => (bx = true → s.bx = true) ∧ s.ds = ds' ∧ mlk s.env r = .va (.int .i64 n')
 | .ret => (bx = true → s.bx = true) ∧ s.ds = ds' ∧ mlk s.env r = .va (.int .i64 n')
 | _ => False

theorem m_run {f n : Nat} {rc : RC} {r : Nat} (h : resF P f = some (n, rc, [.t r])) {w : World} {v : Value} {k : Int} (hn : 2 ≤ n) (hXn : X.n = n) (hw : X.w0 = w) {ds ds' : List D} {k' : Int} {bx : Bool}
  (hs : ∀ a : Act, a.defers = [] → a.tmps = #[v, .int .i64 k] ++ Array.replicate (n - 2) undef → ∃ G, MSat X ⟨bx, ds, [(0, .rt), (1, .va (.int .i64 k))]⟩ a w G)
  (hq : mR P X.sl X.sz rc ⟨bx, ds, [(0, .rt), (1, .va (.int .i64 k))]⟩ (mEnd r bx ds' k')) :
  Callable P f ∧ Calls P f #[v, .int .i64 k] w fun e w' => e = .returned (.int .i64 k') ∧ ∃ s a G, (bx = true → s.bx = true) ∧ s.ds = ds' ∧ MSat X s a w' G := by
 unfold resF resFw at h
 simp only [oD, oB, oP, oS, guard_some, Prod.mk.injEq] at h
 obtain ⟨fn, hf, c, hb, _, hname, rc', hres, xs', hxs, rfl, rfl, rfl⟩ := h
 refine ⟨⟨fn, hf, by simp [hb], by simpa using hname⟩, calls_of_wp hf hb ?_⟩
 obtain ⟨G, hsat⟩ := hs { tmps := #[v, .int .i64 k] ++ Array.replicate (fn.ntmps - (#[v, Value.int .i64 k]).size) undef, defers := [] } rfl rfl
 rw [← hXn] at hres
 refine wp_mono (mR_sound (X := X) c rc' _ _ _ w G hres hsat hq) ?_
 have hres1 : fn.results.toList = [.tmp r] := by
  revert hxs
  generalize fn.results.toList = l
  intro hxs
  match l, hxs with
  | [], hxs => simp at hxs
  | [x], hxs =>
   simp only [List.mapM_cons, List.mapM_nil, oD, oB, oP, oS] at hxs
   obtain ⟨y, hy, _, _, hyy⟩ := hxs
   cases x with
   | tmp t =>
    simp only [resRV, oS] at hy
    subst hy
    simp at hyy
    rw [hyy.1]
   | cell a t =>
    simp only [resRV, oD, oB, oP, oS] at hy
    obtain ⟨_, _, _, _, _, _, rfl⟩ := hy
    simp at hyy
  | x :: y :: l, hxs =>
   have := mapM_len hxs
   simp at this
 have key : ∀ {s : MS} {a' : Act} {w' : World} {G' : MG}, (bx = true → s.bx = true) → s.ds = ds' → mlk s.env r = .va (.int .i64 k') → MSat X s a' w' G' → a'.defers = [] ∧ ∃ v, (results fn a'.tmps).run P w' = .ok v w' ∧ (Ending.returned v = .returned (.int .i64 k') ∧ ∃ s a G, (bx = true → s.bx = true) ∧ s.ds = ds' ∧ MSat X s a w' G) := by
  intro s a' w' G' h0 h1 h2 h3
  refine ⟨h3.dfr, .int .i64 k', ?_, rfl, s, a', G', h0, h1, h3⟩
  have hv := h3.env r
  rw [h2] at hv
  simp only [MRep] at hv
  have := results_eq (P := P) (fn := fn) (tmps := a'.tmps) (w := w') (vs := [.int .i64 k']) (by rw [hres1]; simp [List.mapM_cons, rvVal, hv, Sem.run_bind, Result.andThen])
  simpa using this
 rintro e a' w' ⟨s, G', hk, hs'⟩
 cases e with
 | normal => exact key hk.1 hk.2.1 hk.2.2 hs'
 | ret => exact key hk.1 hk.2.1 hk.2.2 hs'
 | exit i => exact hk.elim
 | goto l => exact hk.elim
 | panic c => exact hk.elim
 | outgrown => exact hk.elim

theorem afm_ls {f n : Nat} {rc : RC} {r : Nat} (h : resF P f = some (n, rc, [.t r])) (hn : 2 ≤ n) {nn : Option Bool} {sz : Nat} {ds ds' : List D} {k k' : Int}
  (hl : ds'.length = ds.length) (hq : ds.length ≤ maxEl → ∀ bx, (ds ≠ [] → bx = true) → mR P true sz rc ⟨bx, ds, [(0, .rt), (1, .va (.int .i64 k))]⟩ (mEnd r bx ds' k')) : AFM P f (.ls nn sz ds) k (.ls nn sz ds') k' := by
 have env0 : ∀ {X : MFix} {G : MG} {bx : Bool} {a : Act}, a.tmps = #[X.v, .int .i64 k] ++ Array.replicate (n - 2) undef → ∀ t, MRep X G bx (mlk [(0, .rt), (1, .va (.int .i64 k))] t) (a.tmps.getD t undef) := by
  intro X G bx a ha t
  simp only [mlk]
  split
  ·next e => subst e; simp only [MRep]; rw [Array.getD_eq_getD_getElem?, ha, Array.getElem?_append_left (by simp)]; rfl
  ·split
   ·next e => subst e; simp only [MRep]; rw [Array.getD_eq_getD_getElem?, ha, Array.getElem?_append_left (by simp)]; rfl
   ·simp [MRep]
 have main : ∀ (w : World) (v : Value) (F : List Nat), Rep w.heap (.ls nn sz ds) F v.cells.toList → (D.ls nn sz ds).fits v → F.Nodup → (∀ b ∈ F, Unf w.heap b) → Callable P f ∧
   Calls P f #[v, .int .i64 k] w fun e w' => e = .returned (.int .i64 k') ∧ w'.os = w.os ∧ w'.tape = w.tape ∧ w'.output = w.output ∧ w.heap.size ≤ w'.heap.size ∧
    (∀ b, b < w.heap.size → b ∉ F → w'.heap[b]? = w.heap[b]?) ∧ ∃ F', Rep w'.heap (.ls nn sz ds') F' v.cells.toList ∧ F'.Nodup ∧ ∀ b ∈ F', b ∈ F ∧ Unf w'.heap b := by
  intro w v F hr hf hnd hz
  have hvc := cells_one (v := v) (by simpa [D.fits] using hf)
  have hr0 := hr
  have hmx := hr.bd
  simp only [D.bd] at hmx
  unfold Rep at hr
  rcases hr with ⟨p, h1, rfl, rfl, h4, h5⟩ | ⟨b, off, cap, c, e, fr, F', h1, rfl, h3, h4, h5, h6, h7, h8, h9⟩
  ·rw [hvc] at h1
   simp only [List.cons.injEq, and_true] at h1
   have hds' : ds' = [] := List.eq_nil_of_length_eq_zero (by simpa using hl)
   subst hds'
   obtain ⟨c1, c2⟩ := m_run (X := ⟨v, [], w, sz, true, n, 0⟩) h (w := w) (v := v) (k := k) (ds := []) (ds' := []) (k' := k') (bx := false) hn rfl rfl (fun a ha ht => by
    refine ⟨⟨[], [], 0, 0, 0, #[], 0⟩, ha, by rw [ht]; simp; omega, rfl, rfl, rfl, Nat.le_refl _, fun _ _ _ => rfl, by simp, rfl, by simp [RepL], by simp, List.nodup_nil, by simp, by simp, ?_, by simp, by simp, by simp, env0 ht⟩
    exact fun _ => ⟨p, 0, h1⟩) (hq (by simp) false (by simp))
   refine ⟨c1, c2.mono ?_⟩
   rintro e w' ⟨rfl, s, a, G, hb, hds, hs⟩
   refine ⟨rfl, hs.os, hs.tape, hs.output, hs.size, hs.old, [], ?_, List.nodup_nil, by simp⟩
   rw [hvc]
   unfold Rep
   exact .inl ⟨p, by rw [h1], rfl, rfl, h4, h5⟩
  ·rw [hvc] at h1
   simp only [List.cons.injEq, and_true] at h1
   have hnd' := List.nodup_cons.1 hnd
   obtain ⟨c', e', hc'⟩ := hz b (by simp)
   rw [h6] at hc'
   injection hc' with hc'
   injection hc' with z1 z2 z3
   subst z1 z2 z3
   have hcs : ((c.toList.drop off).take (ds.length * sz)).length = ds.length * sz := by
    rw [h9.length, D.sizeL_const h8]
   have hle : ds.length * sz ≤ cap * sz := Nat.mul_le_mul_right _ h4
   obtain ⟨c1, c2⟩ := m_run (X := ⟨v, b :: F', w, sz, true, n, ds.length⟩) h (w := w) (v := v) (k := k) (ds := ds) (ds' := ds') (k' := k') (bx := true) hn rfl rfl (fun a ha ht => by
    refine ⟨⟨F', (c.toList.drop off).take (ds.length * sz), b, off, cap, c, e⟩, ha, by rw [ht]; simp; omega, rfl, rfl, rfl, Nat.le_refl _, fun _ _ _ => rfl, fun y hy => hr0.lt y hy, rfl, h9, h8, hnd'.2, fun y hy => ⟨by simp [hy], hz y (by simp [hy])⟩, ?_, ?_, by simp, ?_, by simp, env0 ht⟩
    ·exact fun _ _ => ⟨h1, by simp, h4, h7⟩
    ·exact fun _ => ⟨_, _, h1⟩
    ·refine fun _ => ⟨h6, by simp only [hcs]; omega, by simp only [hcs], hnd'.1⟩) (hq h5 true (fun _ => rfl))
   refine ⟨c1, c2.mono ?_⟩
   rintro e1 w' ⟨rfl, s, a, G, hb, hds, hs⟩
   refine ⟨rfl, hs.os, hs.tape, hs.output, hs.size, hs.old, ?_⟩
   subst hds
   have hbx : s.bx = true := hb rfl
   ·obtain ⟨y1, y2, y3, y4⟩ := hs.blk hbx
    obtain ⟨z1, z2, z3, z4⟩ := hs.vsl rfl hbx
    have hlen := hs.len
    simp only at z1 z2 z3 z4 hlen
    have hcl := hs.cslen
    simp only at hcl
    refine ⟨G.b :: G.F, ?_, List.nodup_cons.2 ⟨y4, hs.nd⟩, fun x hx => ?_⟩
    ·rw [hvc]
     unfold Rep
     refine .inr ⟨G.b, G.off, G.cap, G.c, G.e, (0, 0), G.F, by rw [z1, hl], rfl, h3, by rw [hl]; exact z3, by rw [hl]; exact h5, y1, z4, hs.sz, ?_⟩
     rw [hl, ← hcl, y3]
     exact hs.rep
    ·rcases List.mem_cons.1 hx with rfl | hx
     ·exact ⟨z2, _, _, y1⟩
     ·exact hs.fin x hx
 refine ⟨?_, fun w v F h1 h2 h3 h4 => (main w v F h1 h2 h3 h4).2⟩

 unfold resF resFw at h
 simp only [oD, oB, oP, oS, guard_some, Prod.mk.injEq] at h
 obtain ⟨fn, hf, c, hb, _, hname, _⟩ := h
 exact ⟨fn, hf, by simp [hb], by simpa using hname⟩

theorem afm_ag {f n : Nat} {rc : RC} {r : Nat} (h : resF P f = some (n, rc, [.t r])) (hn : 2 ≤ n) {d d' : D} {k k' : Int} (hd : d.isAg = true)
  (hq : d.bd → mR P false d.size rc ⟨false, [d], [(0, .rt), (1, .va (.int .i64 k))]⟩ (mEnd r false [d'] k')) : AFM P f d k d' k' := by
 refine ⟨?_, fun w v F hr hf hnd hz => ?_⟩
 ·unfold resF resFw at h
  simp only [oD, oB, oP, oS, guard_some, Prod.mk.injEq] at h
  obtain ⟨fn, hf, c, hb, _, hname, _⟩ := h
  exact ⟨fn, hf, by simp [hb], by simpa using hname⟩
 ·have hlen := hr.length
  obtain ⟨c1, c2⟩ := m_run (X := ⟨v, F, w, d.size, false, n, 1⟩) h (w := w) (v := v) (k := k) (ds := [d]) (ds' := [d']) (k' := k') (bx := false) hn rfl rfl (fun a ha ht => by
   refine ⟨⟨F, v.cells.toList, 0, 0, 0, #[], 0⟩, ha, by rw [ht]; simp; omega, rfl, rfl, rfl, Nat.le_refl _, fun _ _ _ => rfl, fun y hy => hr.lt y hy, rfl, ?_, by simp, hnd, fun y hy => ⟨hy, hz y hy⟩, by simp, by simp, by simp, by simp, by simp, fun t => ?_⟩
   ·rw [RepL_cons]
    exact ⟨F, [], _, [], by simp, by simp, hr, RepL_nil.2 ⟨rfl, rfl⟩⟩
   ·simp only [mlk]
    split
    ·next e => subst e; simp only [MRep]; rw [Array.getD_eq_getD_getElem?, ht, Array.getElem?_append_left (by simp)]; rfl
    ·split
     ·next e => subst e; simp only [MRep]; rw [Array.getD_eq_getD_getElem?, ht, Array.getElem?_append_left (by simp)]; rfl
     ·simp [MRep]) (hq hr.bd)
  refine c2.mono ?_
  rintro e w' ⟨rfl, s, a, G, _, hds, hs⟩
  refine ⟨rfl, hs.os, hs.tape, hs.output, hs.size, hs.old, G.F, ?_, hs.nd, hs.fin⟩
  have h1 := hs.rep
  rw [hds, RepL_cons] at h1
  obtain ⟨F1, F2, c1, c2, e1, e2, h2, h3⟩ := h1
  obtain ⟨rfl, rfl⟩ := RepL_nil.1 h3
  have h4 := hs.vst rfl
  simp only at h4
  rw [h4, e1, e2]
  simpa using h2

section
variable {sl : Bool} {sz : Nat} {s : MS} {K : Exit → MS → Prop} {bx : Bool} {ds : List D} {env : List (Nat × MV)}
def kmR (P : Program) (sl : Bool) (sz : Nat) (c : RC) (K : Exit → MS → Prop) (s : MS) : Prop := mR P sl sz c s K
def kmO (P : Program) (sl : Bool) (sz : Nat) (l : List RO) (k : MS → Prop) (s : MS) : Prop := mOps P sl sz l s k
@[congr] theorem mR_cg {c : RC} {s s' : MS} (h : s = s') : mR P sl sz c s K = mR P sl sz c s' K := by rw [h]
@[congr] theorem kmR_cg {c : RC} {s s' : MS} (h : s = s') : kmR P sl sz c K s = kmR P sl sz c K s' := by rw [h]
@[congr] theorem mOps_cg {l : List RO} {s s' : MS} {k : MS → Prop} (h : s = s') : mOps P sl sz l s k = mOps P sl sz l s' k := by rw [h]
@[congr] theorem kmO_cg {l : List RO} {s s' : MS} {k : MS → Prop} (h : s = s') : kmO P sl sz l k s = kmO P sl sz l k s' := by rw [h]
@[congr] theorem mseq_cg {f : MS → Prop} {e e' : Exit} {s s' : MS} (h : e = e') (h' : s = s') : mseq f K e s = mseq f K e' s' := by rw [h, h']
@[congr] theorem mblk_cg {i : Nat} {e e' : Exit} {s s' : MS} (h : e = e') (h' : s = s') : mblk i K e s = mblk i K e' s' := by rw [h, h']
@[congr] theorem mCond_cg {c c' : MV} {p q : Prop} (h : c = c') : mCond c p q = mCond c' p q := by rw [h]
@[congr] theorem mLen_cg {x x' : MV} {d : Nat} {k : MS → Prop} (h : x = x') : mLen x sl d s k = mLen x' sl d s k := by rw [h]
@[congr] theorem mBin_cg {x x' y y' : MV} {op : BinOp} {d : Nat} {k : MS → Prop} (h : x = x') (h' : y = y') : mBin x y op d s k = mBin x' y' op d s k := by rw [h, h']
@[congr] theorem mIa_cg {x x' y y' : MV} {z d : Nat} {k : MS → Prop} (h : x = x') (h' : y = y') : mIa x y sl sz z d s k = mIa x' y' sl sz z d s k := by rw [h, h']
@[congr] theorem mFa_cg {x x' : MV} {off d : Nat} {k : MS → Prop} (h : x = x') : mFa x sz off d s k = mFa x' sz off d s k := by rw [h]
@[congr] theorem mBox_cg {x x' : MV} {z d : Nat} {k : MS → Prop} (h : x = x') : mBox x sl sz z d s k = mBox x' sl sz z d s k := by rw [h]
@[congr] theorem mLd_cg {x x' : MV} {agg : Bool} {z d : Nat} {k : MS → Prop} (h : x = x') : mLd x agg z d s k = mLd x' agg z d s k := by rw [h]
@[congr] theorem mSt_cg {x x' y y' : MV} {z : Nat} {k : MS → Prop} (h : x = x') (h' : y = y') : mSt x y sl sz z s k = mSt x' y' sl sz z s k := by rw [h, h']
@[congr] theorem mMcl_cg {x x' y y' : MV} {d f : Nat} {k : MS → Prop} (h : x = x') (h' : y = y') : mMcl x y P sz d f s k = mMcl x' y' P sz d f s k := by rw [h, h']
@[go_sem ↓] theorem mR_skip : mR P sl sz .skip s K = K .normal s := rfl
@[go_sem ↓] theorem mR_reg {ops : List RO} : mR P sl sz (.reg false ops) s K = mOps P sl sz ops s (K .normal) := rfl
@[go_sem ↓] theorem mR_seq {a b : RC} : mR P sl sz (.seq a b) s K = mR P sl sz a s (mseq (kmR P sl sz b K) K) := rfl
@[go_sem ↓] theorem mR_cond {x : Ax.X} {a b : RC} : mR P sl sz (.cond x a b) s K = mCond (mev s.env x) (mR P sl sz a s K) (mR P sl sz b s K) := rfl
@[go_sem ↓] theorem mR_blk {i : Nat} {c : RC} : mR P sl sz (.blk i c) s K = mR P sl sz c s (mblk i K) := rfl
@[go_sem ↓] theorem mR_exit {i : Nat} : mR P sl sz (.exit i) s K = K (.exit i) s := rfl
@[go_sem ↓] theorem mR_ret : mR P sl sz .ret s K = K .ret s := rfl
@[go_sem ↓] theorem kmR_ap {c : RC} : kmR P sl sz c K s = mR P sl sz c s K := rfl
@[go_sem ↓] theorem kmO_ap {l : List RO} {k : MS → Prop} : kmO P sl sz l k s = mOps P sl sz l s k := rfl
@[go_sem ↓] theorem mseq_normal {f : MS → Prop} : mseq f K .normal s = f s := rfl
@[go_sem ↓] theorem mseq_ret {f : MS → Prop} : mseq f K .ret s = K .ret s := rfl
@[go_sem ↓] theorem mseq_exit {f : MS → Prop} {i : Nat} : mseq f K (.exit i) s = K (.exit i) s := rfl
@[go_sem ↓] theorem mblk_normal {i : Nat} : mblk i K .normal s = K .normal s := rfl
@[go_sem ↓] theorem mblk_ret {i : Nat} : mblk i K .ret s = K .ret s := rfl
@[go_sem] theorem mblk_exit {i j : Nat} : mblk i K (.exit j) s = if j = i then K .normal s else K (.exit j) s := rfl
@[go_sem] theorem mCond_b {t : Bool} {p q : Prop} : mCond (.va (.bool t)) p q = ((t = true → p) ∧ (t = false → q)) := rfl
@[go_sem ↓] theorem mOps_nil {k : MS → Prop} : mOps P sl sz [] s k = k s := rfl
section
variable {l : List RO} {k : MS → Prop}
@[go_sem ↓] theorem mOps_mv {d : Nat} {x : Ax.X} : mOps P sl sz (⟨none, .mv d x⟩ :: l) s k = kmO P sl sz l k (s.set d (mev s.env x)) := rfl
@[go_sem ↓] theorem mOps_len {d : Nat} {x : Ax.X} : mOps P sl sz (⟨none, .len d x⟩ :: l) s k = mLen (mev s.env x) sl d s (kmO P sl sz l k) := rfl
@[go_sem ↓] theorem mOps_bin {d : Nat} {op : BinOp} {x y : Ax.X} : mOps P sl sz (⟨none, .bin d op x y⟩ :: l) s k = mBin (mev s.env x) (mev s.env y) op d s (kmO P sl sz l k) := rfl
@[go_sem ↓] theorem mOps_ia {d z : Nat} {x y : Ax.X} : mOps P sl sz (⟨none, .ia d z x y⟩ :: l) s k = mIa (mev s.env x) (mev s.env y) sl sz z d s (kmO P sl sz l k) := rfl
@[go_sem ↓] theorem mOps_fa {d off : Nat} {x : Ax.X} : mOps P sl sz (⟨none, .fa d off x⟩ :: l) s k = mFa (mev s.env x) sz off d s (kmO P sl sz l k) := rfl
@[go_sem ↓] theorem mOps_box {d z : Nat} {x : Ax.X} : mOps P sl sz (⟨none, .box d z x⟩ :: l) s k = mBox (mev s.env x) sl sz z d s (kmO P sl sz l k) := rfl
@[go_sem ↓] theorem mOps_ld {d z : Nat} {agg : Bool} {x : Ax.X} : mOps P sl sz (⟨none, .ld d agg z x⟩ :: l) s k = mLd (mev s.env x) agg z d s (kmO P sl sz l k) := rfl
@[go_sem ↓] theorem mOps_st {z : Nat} {x y : Ax.X} : mOps P sl sz (⟨none, .st z x y⟩ :: l) s k = mSt (mev s.env x) (mev s.env y) sl sz z s (kmO P sl sz l k) := rfl
@[go_sem ↓] theorem mOps_mcl {d f : Nat} {x y : Ax.X} : mOps P sl sz (⟨none, .mcl d f x y⟩ :: l) s k = mMcl (mev s.env x) (mev s.env y) P sz d f s (kmO P sl sz l k) := rfl
@[go_sem] theorem mLen_rt {d : Nat} : mLen .rt sl d s k = (sl = true ∧ k (s.set d (.va (.int .i64 s.ds.length)))) := rfl
@[go_sem] theorem mBin_va {a b : Value} {op : BinOp} {d : Nat} : mBin (.va a) (.va b) op d s k = binV op a b fun v => k (s.set d (.va v)) := rfl
@[go_sem] theorem mIa_rt {kd : IntKind} {n : Int} {z d : Nat} : mIa .rt (.va (.int kd n)) sl sz z d s k = ((sl = true ∧ s.bx = true ∧ z = sz ∧ 0 < sz ∧ 0 ≤ n ∧ n < s.ds.length) ∧ k (s.set d (.pt n.toNat 0))) := rfl
@[go_sem] theorem mFa_pt {i j off d : Nat} : mFa (.pt i j) sz off d s k = (j + off < sz ∧ k (s.set d (.pt i (j + off)))) := rfl
@[go_sem] theorem mBox_rt {z d : Nat} : mBox .rt sl sz z d s k = ((sl = false ∧ s.bx = false ∧ z = sz ∧ 0 < sz ∧ 0 < s.ds.length) ∧ k ⟨true, s.ds, (d, .pt 0 0) :: kilP s.env⟩) := rfl
@[go_sem] theorem mLd_pt {i j z d : Nat} : mLd (.pt i j) false z d s k = (z = 1 ∧ k (s.set d (.sb i j))) := by simp [mLd]
@[go_sem] theorem mLd_ptA {i j z d : Nat} : mLd (.pt i j) true z d s k = ((j + z ≤ (D.at s.ds i).size ∧ (D.at s.ds i).isAg = true) ∧ k (s.set d (.sg i j z))) := by simp [mLd]
@[go_sem] theorem mSt_pt {i j z : Nat} {y : Value} : mSt (.pt i j) (.va y) sl sz z s k = ((sl = true ∧ z = 1 ∧ y.oneCell' = true ∧ (D.sub (D.at s.ds i) j 1 false).isSc = true ∧ (j = 0 ∧ 1 = sz ∨ (D.at s.ds i).isAg = true)) ∧
   k ⟨s.bx, s.ds.set i (D.put sz (D.at s.ds i) j 1 (.sc y)), kil s.env⟩) := rfl
theorem mMcl_sg {i j z d f : Nat} {n n' : Int} {e' : D} (ha : AFM P f (D.sub (D.at s.ds i) j z true) n e' n') (h1 : (D.at s.ds i).isAg = true)
  (hk : k ⟨s.bx, s.ds.set i (D.put sz (D.at s.ds i) j z e'), (d, .va (.int .i64 n')) :: s.env⟩) : mMcl (.sg i j z) (.va (.int .i64 n)) P sz d f s k := ⟨e', n', ha, h1, hk⟩
theorem mMcl_self {i j d f : Nat} {n n' : Int} {e' : D} (ha : AFM P f (D.sub (D.at s.ds i) j 1 false) n e' n') (h1 : (D.sub (D.at s.ds i) j 1 false).isAg = false) (h2 : j = 0 ∧ 1 = sz ∨ (D.at s.ds i).isAg = true)
  (hk : k ⟨s.bx, s.ds.set i (D.put sz (D.at s.ds i) j 1 e'), (d, .va (.int .i64 n')) :: s.env⟩) : mMcl (.sb i j) (.va (.int .i64 n)) P sz d f s k := ⟨e', n', ha, ⟨h1, h2⟩, hk⟩
end
@[go_sem] theorem MS_set_mk {d : Nat} {v : MV} : (MS.mk bx ds env).set d v = ⟨bx, ds, (d, v) :: env⟩ := rfl
@[go_sem] theorem mlk_cons {k t : Nat} {v : MV} {r : List (Nat × MV)} : mlk ((k, v) :: r) t = if k = t then v else mlk r t := rfl
@[go_sem] theorem mev_t {n : Nat} : mev env (.t n) = mlk env n := rfl
@[go_sem] theorem mev_sc {x : Value} : mev env (.c (.sc x)) = .va x := rfl
@[go_sem] theorem mEnd_normal {r : Nat} {ds' : List D} {n' : Int} {b0 : Bool} : mEnd r b0 ds' n' .normal s = ((b0 = true → s.bx = true) ∧ s.ds = ds' ∧ mlk s.env r = .va (.int .i64 n')) := rfl
@[go_sem] theorem mEnd_ret {r : Nat} {ds' : List D} {n' : Int} {b0 : Bool} : mEnd r b0 ds' n' .ret s = ((b0 = true → s.bx = true) ∧ s.ds = ds' ∧ mlk s.env r = .va (.int .i64 n')) := rfl
attribute [go_sem] kil kilV kilP Value.oneCell'

theorem m_loop {c : RC} {α : Type} (F : α → MS) (J : α → Prop) (μ : α → Nat) (x0 : α) (h0 : MEnt s (F x0)) (hJ : J x0)
  (h : ∀ x, J x → mR P sl sz c (F x) (mseq (fun s => ∃ y, J y ∧ μ y < μ x ∧ MEnt s (F y)) K)) : mR P sl sz (.loop c) s K := by
 refine ⟨fun n s => ∃ x, J x ∧ μ x = n ∧ s = F x, ⟨_, _, h0, x0, hJ, rfl, rfl⟩, ?_⟩
 rintro n s ⟨x, hx, rfl, rfl⟩
 have := h x hx
 have e : (mseq (fun s => ∃ y, J y ∧ μ y < μ x ∧ MEnt s (F y)) K) = (mseq (fun s' => ∃ n' s'', MEnt s' s'' ∧ (∃ x, J x ∧ μ x = n' ∧ s'' = F x) ∧ n' < μ x) K) := by
  congr 1
  funext s
  apply propext
  constructor
  ·rintro ⟨y, h1, h2, h3⟩
   exact ⟨_, _, h3, ⟨y, h1, rfl, rfl⟩, h2⟩
  ·rintro ⟨_, _, h3, ⟨y, h1, rfl, rfl⟩, h2⟩
   exact ⟨y, h1, h2, h3⟩
 rw [e] at this
 exact this
end

end Go.Ax
namespace Go.Ax

variable {P : Program}

theorem Ent.refl (st : St) : Ent st st := fun _ _ _ _ _ _ h => h
theorem Ent.trans {a b c : St} (h : Ent a b) (k : Ent b c) : Ent a c := fun _ _ _ _ _ _ x => k _ _ _ _ _ _ (h _ _ _ _ _ _ x)

def subEnv (e : List (Nat × AV)) : List (Nat × AV) → Prop
 | [] => True
 | (k, v) :: r => lk e k = v ∧ subEnv e r

theorem subEnv_lk {e : List (Nat × AV)} : ∀ {e' : List (Nat × AV)}, subEnv e e' → ∀ t, lk e' t = .any ∨ lk e' t = lk e t
 | [], _, t => .inl rfl
 | (k, v) :: r, h, t => by
  simp only [lk]
  split
  ·next hk => subst hk; exact .inr h.1.symm
  ·exact subEnv_lk h.2 t

theorem Ent.env {n : Nat} {e e' : List (Nat × AV)} {us : List (Nat × U)} (h : subEnv e e') : Ent ⟨n, e, us⟩ ⟨n, e', us⟩ := by
 intro n0 S0 M0 w0 a w hs
 obtain ⟨g, hu, hv⟩ := hs.gh
 refine ⟨hs.ms, hs.dfr, hs.tm, hs.base, hs.os, hs.tape, hs.output, hs.size, hs.old, g, hu, fun t => ?_⟩
 rcases subEnv_lk h t with h | h
 ·simp only
  rw [h]
  simp [VRep]
 ·simp only
  rw [h]
  exact hv t

theorem Ent.del (st : St) (k : Nat) : Ent st (st.del k) := by
 intro n0 S0 M0 w0 a w hs
 obtain ⟨g, hu, hv⟩ := hs.gh
 obtain ⟨hU, hK⟩ := hu.del k
 exact ⟨hs.ms, hs.dfr, hs.tm, hs.base, hs.os, hs.tape, hs.output, hs.size, hs.old, _, hU, fun t => killE_rep (fun av v hf hr => VRep.keepR hK hf hr) (hv t)⟩

theorem Ent.perm {n : Nat} {e : List (Nat × AV)} {us us' : List (Nat × U)} (h : us'.Perm us) : Ent ⟨n, e, us⟩ ⟨n, e, us'⟩ := by
 intro n0 S0 M0 w0 a w hs
 exact hs.eqv rfl (fun _ => rfl) h

theorem vc_loop {c : RC} {st : St} {K : Exit → St → Prop} {α : Type} (F : α → St) (J : α → Prop) (μ : α → Nat) (x0 : α) (h0 : Ent st (F x0)) (hJ : J x0)
  (h : ∀ x, J x → vcR P c (F x) (kseq (fun s => ∃ y, J y ∧ μ y < μ x ∧ Ent s (F y)) K)) : vcR P (.loop c) st K := by
 refine ⟨fun n s => ∃ x, J x ∧ μ x = n ∧ s = F x, ⟨_, _, h0, x0, hJ, rfl, rfl⟩, ?_⟩
 rintro n s ⟨x, hx, rfl, rfl⟩
 have := h x hx
 have e : (kseq (fun s => ∃ y, J y ∧ μ y < μ x ∧ Ent s (F y)) K) = (kseq (fun s' => ∃ n' s'', Ent s' s'' ∧ (∃ x, J x ∧ μ x = n' ∧ s'' = F x) ∧ n' < μ x) K) := by
  congr 1
  funext s
  apply propext
  constructor
  ·rintro ⟨y, h1, h2, h3⟩
   exact ⟨_, _, h3, ⟨y, h1, rfl, rfl⟩, h2⟩
  ·rintro ⟨_, _, h3, ⟨y, h1, rfl, rfl⟩, h2⟩
   exact ⟨y, h1, h2, h3⟩
 rw [e] at this
 exact this

theorem D.LeA.refl (d : D) : d.LeA d := ⟨fun _ F _ h => ⟨F, h, fun _ hb => hb⟩, fun _ h => h⟩
theorem D.LeA.eq {d e : D} (h : d = e) : d.LeA e := h ▸ D.LeA.refl d

theorem D.LeA.sub {d e : D} {j sz : Nat} (hj : j + sz ≤ d.size) (hd : d.isAg = true) (h0 : 0 < sz) (he : D.sub d j sz true = e) : D.LeA (.pt d j) (.pt e 0) := by
 refine ⟨fun h F cs hr => ?_, fun v hv => hv⟩
 simp only [Rep] at hr
 obtain ⟨b, off, c, el, fr, F', rfl, rfl, r1, r2, r3, r4⟩ := hr
 obtain ⟨F1, F2, F3, c1, c2, c3, g1, g2, g3, g4, g5, g6⟩ := r4.sub (agg := true) hj (fun _ => hd) (by simp)
 subst he
 have hs : (D.sub d j sz true).size = sz := by rw [← g5.length, g4]
 refine ⟨b :: F2, ?_, ?_⟩
 ·simp only [Rep]
  refine ⟨b, off + j, c, el, fr, F2, by simp, rfl, by omega, r2, by omega, ?_⟩
  rw [hs]
  have e1 : (c.toList.drop (off + j)).take sz = c2 := by
   have h1 : ((c.toList.drop off).take d.size).drop j = c2 ++ c3 := by rw [g2, ← g3]; simp
   have h2 : (((c.toList.drop off).take d.size).drop j).take sz = c2 := by rw [h1, ← g4]; simp
   rw [← h2, List.drop_take, List.drop_drop, List.take_take, Nat.min_eq_left (by omega)]
  rw [e1]
  exact g5
 ·intro x hx
  rcases List.mem_cons.1 hx with rfl | hx
  ·simp
  ·rw [g1]; simp [hx]
theorem D.LeL.refl : ∀ (ds : List D), D.LeL ds ds
 | [] => trivial
 | d :: ds => ⟨D.LeA.refl d, D.LeL.refl ds⟩

theorem callQ_self {d : Option Nat} {f : Nat} {args : List AV} {un : Nat → Option U} {k : KQ} {ds : List D} {r : Ret} (ha : argsOf un args = some ds) (h : AF P f ds r)
  (hk : k (bindR (d.getD 0) (shA args ds) r).1 (bindR (d.getD 0) (shA args ds) r).2) : callQ P d f args un k :=
 .inl ⟨ds, ds, r, ha, D.LeL.refl ds, h, hk⟩

theorem callP_self {d : Option Nat} {f : Nat} {args : List AV} {un : Nat → Option U} {k : KQ} {t : Option Nat} {kk : Int} {B C : AV} (ha : args = [.im t (.sc (.int .i64 kk)), B, C]) (h : AFP P f) (hB : (AV.aggV un B && itemOk un 3 B) = true) (hC : (AV.aggV un C && itemOk un 3 C) = true)
  (hk : k (.sg [.im none (.sc (.int .i64 kk)), .im none (.sc (.int .i64 0)), .vb (d.getD 0) 2]) [(d.getD 0, .bx 3 [B, C])]) (hlow : d.getD 0 < 3000000000 := by decide) : callQ P d f args un k := .inr (.inr ⟨hlow, t, kk, B, C, ha, h, hB, hC, hk⟩)

theorem wcl_self {d : Option Nat} {f : Nat} {args : List AV} {st : St} {kk : St → Prop} (k1 k2 : List Nat) {us us' : List U} {as : List AV} {r : Ret} (h1 : nodupB (k1 ++ k2) = true) (h2 : wUs (k1 ++ k2) st.unit (k1 ++ k2) = some us) (h3 : argsW (k1 ++ k2) st.unit args = some as)
  (hA : AFW P f us as us' r) (hl : us'.length = k1.length) (h4 : wOut k1.length (shWL (k1 ++ k2) args && shUs (k1 ++ k2) st.unit (k1 ++ k2)) us us') (h5 : kq kk (st.updW k1 k2 us') d (bindR (d.getD 0) false r).1 (bindR (d.getD 0) false r).2) : wclK P d f args st kk := ⟨k1, k2, us, as, us', r, h1, h2, h3, hA, hl, h4, h5⟩
theorem callQ_le {d : Option Nat} {f : Nat} {args : List AV} {un : Nat → Option U} {k : KQ} {ds es : List D} {r : Ret} (ha : argsOf un args = some ds) (hl : D.LeL ds es) (h : AF P f es r)
  (hk : k (bindR (d.getD 0) (shA args ds) r).1 (bindR (d.getD 0) (shA args ds) r).2) : callQ P d f args un k :=
 .inl ⟨ds, es, r, ha, hl, h, hk⟩

theorem wrap_i64 {x : Int} (h1 : -9223372036854775808 ≤ x) (h2 : x ≤ 9223372036854775807) : IntKind.i64.wrap x = x := by
 simp [IntKind.wrap, IntKind.bits, IntKind.signed]
 omega

theorem at_map {α : Type} {f : α → D} {l : List α} {i : Nat} (h : i < l.length) : D.at (l.map f) i = f l[i] := by
 simp [D.at, h]

@[go_sem] theorem none_beq {k : Nat} : ((none : Option Nat) == some k) = false := rfl
@[go_sem] theorem some_beq {i k : Nat} : (some i == some k) = (i == k) := rfl
attribute [go_sem] Bool.false_eq_true

@[go_sem] theorem nn_beq_f : ((some false : Option Bool) == some true) = false := rfl
@[go_sem] theorem nn_beq_t : ((some true : Option Bool) == some true) = true := rfl
@[go_sem] theorem nn_beq_n : ((none : Option Bool) == some true) = false := rfl
attribute [go_sem] Bool.false_and Bool.true_and Bool.and_false Bool.and_true

def freeE : List (Nat × AV) → Bool
 | [] => true
 | (_, .im none _) :: r => freeE r
 | _ => false
theorem freeE_lk : ∀ {e : List (Nat × AV)}, freeE e = true → ∀ t, lk e t = .any ∨ ∃ d, lk e t = .im none d
 | [], _, t => .inl rfl
 | (k, .im none d) :: r, h, t => by
  simp only [lk]
  split
  ·exact .inr ⟨d, rfl⟩
  ·exact freeE_lk (by simpa [freeE] using h) t

theorem Ent.clear {n : Nat} {e e' : List (Nat × AV)} {us : List (Nat × U)} (h : subEnv e e') (hf : freeE e' = true) : Ent ⟨n, e, us⟩ ⟨n, e', []⟩ := by
 intro n0 S0 M0 w0 a w hs
 obtain ⟨g, hu, hv⟩ := hs.gh
 refine ⟨hs.ms, hs.dfr, hs.tm, hs.base, hs.os, hs.tape, hs.output, hs.size, hs.old, { g with φ := fun _ => [] }, ⟨by simp, by simp [fp], by simp [fp], by simp [fp], fun _ _ => rfl, fun b hb => ⟨(hu.sh b hb).1, (hu.sh b hb).2.1, by simp [fp]⟩, by simp, by simp [fp], by intro k v _ h; simp at h⟩, fun t => ?_⟩
 simp only
 rcases freeE_lk hf t with h1 | ⟨d, h1⟩
 ·rw [h1]
  simp [VRep]
 ·have h2 : lk e t = .im none d := by
   rcases subEnv_lk h t with h2 | h2
   ·rw [h1] at h2; cases h2
   ·rw [← h2, h1]
  have := hv t
  simp only [h2] at this
  rw [h1]
  simp only [VRep] at this ⊢
  obtain ⟨F, r1, r2, r3⟩ := this
  refine ⟨F, r1, r2, fun b hb => ?_⟩
  rcases r3 b hb with h | ⟨k, hk, _⟩
  ·exact .inl h
  ·cases hk

end Go.Ax
namespace Go.Ax
set_option linter.unusedSimpArgs false

def cSzC (f sz : Nat) (agg : Bool) : RC :=
 (.seq
  (.reg false [⟨none, .mv 4 (.c (.sc (.int .i64 0)))⟩])
  ((.seq
   (.reg false [⟨none, .mv 6 (.t 1)⟩,
     ⟨none, .mv 7 (.t 0)⟩,
     ⟨none, .len 8 (.t 7)⟩,
     ⟨none, .bin 9 .sub (.t 6) (.t 8)⟩,
     ⟨none, .mv 1 (.t 9)⟩])
   ((.seq
    ((.seq
     (.reg false [⟨none, .mv 10 (.t 1)⟩,
       ⟨none, .bin 11 .lss (.t 10) (.c (.sc (.int .i64 0)))⟩])
     (.cond (.t 11)
      ((.seq
       (.reg false [⟨none, .mv 4 (.c (.sc (.int .i64 (-1))))⟩])
       (.ret)))
      (.skip))))
    ((.seq
     ((.seq
      (.reg false [⟨none, .mv 5 (.c (.sc (.int .i64 0)))⟩])
      (.blk 0
       (.loop
        ((.seq
         ((.seq
          (.reg false [⟨none, .mv 12 (.t 5)⟩,
            ⟨none, .mv 13 (.t 0)⟩,
            ⟨none, .len 14 (.t 13)⟩,
            ⟨none, .bin 15 .lss (.t 12) (.t 14)⟩])
          (.cond (.t 15)
           (.skip)
           (.exit 0))))
         ((.seq
          (.blk 1
           ((.seq
            (.reg false [⟨none, .mv 18 (.t 0)⟩,
              ⟨none, .mv 19 (.t 5)⟩,
              ⟨none, .ia 20 sz (.t 18) (.t 19)⟩,
              ⟨none, .ld 21 agg sz (.t 20)⟩,
              ⟨none, .mv 22 (.t 1)⟩,
              ⟨none, .call (some 23) f [(.t 21), (.t 22)]⟩,
              ⟨none, .mv 1 (.t 23)⟩])
            ((.seq
             (.reg false [⟨none, .mv 24 (.t 1)⟩,
               ⟨none, .bin 25 .lss (.t 24) (.c (.sc (.int .i64 0)))⟩])
             (.cond (.t 25)
              ((.seq
               (.reg false [⟨none, .mv 4 (.c (.sc (.int .i64 (-1))))⟩])
               (.ret)))
              (.skip)))))))
          (.reg false [⟨none, .mv 16 (.t 5)⟩,
            ⟨none, .bin 17 .add (.t 16) (.c (.sc (.int .i64 1)))⟩,
            ⟨none, .mv 5 (.t 17)⟩])))))))))
     ((.seq
      (.reg false [⟨none, .mv 26 (.t 1)⟩,
        ⟨none, .mv 4 (.t 26)⟩])
      (.ret))))))))))

def cToC (f sz bytes : Nat) (agg : Bool) (z : D) : RC :=
 (.seq
  (.reg false [⟨none, .mv 2 (.c (.ls (some true) sz []))⟩])
  ((.seq
   (.reg false [⟨none, .mv 5 (.t 0)⟩,
     ⟨none, .len 6 (.t 5)⟩,
     ⟨none, .mk 7 sz bytes z (.t 6) (.t 6)⟩,
     ⟨none, .mv 3 (.t 7)⟩])
   ((.seq
    ((.seq
     (.reg false [⟨none, .mv 4 (.c (.sc (.int .i64 0)))⟩])
     (.blk 0
      (.loop
       ((.seq
        ((.seq
         (.reg false [⟨none, .mv 8 (.t 4)⟩,
           ⟨none, .mv 9 (.t 0)⟩,
           ⟨none, .len 10 (.t 9)⟩,
           ⟨none, .bin 11 .lss (.t 8) (.t 10)⟩])
         (.cond (.t 11)
          (.skip)
          (.exit 0))))
        ((.seq
         (.blk 1
          (.reg false [⟨none, .mv 14 (.t 3)⟩,
            ⟨none, .mv 15 (.t 4)⟩,
            ⟨none, .mv 16 (.t 0)⟩,
            ⟨none, .mv 17 (.t 4)⟩,
            ⟨none, .ia 18 sz (.t 16) (.t 17)⟩,
            ⟨none, .ld 19 agg sz (.t 18)⟩,
            ⟨none, .call (some 20) f [(.t 19)]⟩,
            ⟨none, .ia 21 sz (.t 14) (.t 15)⟩,
            ⟨none, .st sz (.t 21) (.t 20)⟩]))
         (.reg false [⟨none, .mv 12 (.t 4)⟩,
           ⟨none, .bin 13 .add (.t 12) (.c (.sc (.int .i64 1)))⟩,
           ⟨none, .mv 4 (.t 13)⟩])))))))))
    ((.seq
     (.reg false [⟨none, .mv 22 (.t 3)⟩,
       ⟨none, .mv 2 (.t 22)⟩])
     (.ret))))))))

def cEqS : RC :=
 (.seq
  (.reg false [⟨none, .mv 4 (.c (.sc (.bool false)))⟩])
  ((.seq
   ((.seq
    (.reg false [⟨none, .mv 6 (.t 0)⟩,
      ⟨none, .len 7 (.t 6)⟩,
      ⟨none, .mv 8 (.t 1)⟩,
      ⟨none, .len 9 (.t 8)⟩,
      ⟨none, .bin 10 .neq (.t 7) (.t 9)⟩])
    (.cond (.t 10)
     ((.seq
      (.reg false [⟨none, .mv 4 (.c (.sc (.bool false)))⟩])
      (.ret)))
     (.skip))))
   ((.seq
    ((.seq
     (.reg false [⟨none, .mv 5 (.c (.sc (.int .i64 0)))⟩])
     (.blk 0
      (.loop
       ((.seq
        ((.seq
         (.reg false [⟨none, .mv 11 (.t 5)⟩,
           ⟨none, .mv 12 (.t 0)⟩,
           ⟨none, .len 13 (.t 12)⟩,
           ⟨none, .bin 14 .lss (.t 11) (.t 13)⟩])
         (.cond (.t 14)
          (.skip)
          (.exit 0))))
        ((.seq
         (.blk 1
          ((.seq
           (.reg true [⟨none, .mv 17 (.t 0)⟩,
             ⟨none, .mv 18 (.t 5)⟩,
             ⟨none, .ia 19 1 (.t 17) (.t 18)⟩,
             ⟨none, .ld 20 false 1 (.t 19)⟩,
             ⟨none, .mv 21 (.t 1)⟩,
             ⟨none, .mv 22 (.t 5)⟩,
             ⟨none, .ia 23 1 (.t 21) (.t 22)⟩,
             ⟨none, .ld 24 false 1 (.t 23)⟩,
             ⟨none, .bin 25 .neq (.t 20) (.t 24)⟩])
           (.cond (.t 25)
            ((.seq
             (.reg false [⟨none, .mv 4 (.c (.sc (.bool false)))⟩])
             (.ret)))
            (.skip)))))
         (.reg false [⟨none, .mv 15 (.t 5)⟩,
           ⟨none, .bin 16 .add (.t 15) (.c (.sc (.int .i64 1)))⟩,
           ⟨none, .mv 5 (.t 16)⟩])))))))))
    ((.seq
     (.reg false [⟨none, .mv 4 (.c (.sc (.bool true)))⟩])
     (.ret))))))))

def cEqC (f sz : Nat) (agg : Bool) : RC :=
 (.seq
  (.reg false [⟨none, .mv 4 (.c (.sc (.bool false)))⟩])
  ((.seq
   ((.seq
    (.reg false [⟨none, .mv 6 (.t 0)⟩,
      ⟨none, .len 7 (.t 6)⟩,
      ⟨none, .mv 8 (.t 1)⟩,
      ⟨none, .len 9 (.t 8)⟩,
      ⟨none, .bin 10 .neq (.t 7) (.t 9)⟩])
    (.cond (.t 10)
     ((.seq
      (.reg false [⟨none, .mv 4 (.c (.sc (.bool false)))⟩])
      (.ret)))
     (.skip))))
   ((.seq
    ((.seq
     (.reg false [⟨none, .mv 5 (.c (.sc (.int .i64 0)))⟩])
     (.blk 0
      (.loop
       ((.seq
        ((.seq
         (.reg false [⟨none, .mv 11 (.t 5)⟩,
           ⟨none, .mv 12 (.t 0)⟩,
           ⟨none, .len 13 (.t 12)⟩,
           ⟨none, .bin 14 .lss (.t 11) (.t 13)⟩])
         (.cond (.t 14)
          (.skip)
          (.exit 0))))
        ((.seq
         (.blk 1
          ((.seq
           (.reg true [⟨none, .mv 17 (.t 0)⟩,
             ⟨none, .mv 18 (.t 5)⟩,
             ⟨none, .ia 19 sz (.t 17) (.t 18)⟩,
             ⟨none, .ld 20 agg sz (.t 19)⟩,
             ⟨none, .mv 21 (.t 1)⟩,
             ⟨none, .mv 22 (.t 5)⟩,
             ⟨none, .ia 23 sz (.t 21) (.t 22)⟩,
             ⟨none, .ld 24 agg sz (.t 23)⟩,
             ⟨none, .call (some 25) f [(.t 20), (.t 24)]⟩,
             ⟨none, .un 26 .not (.t 25)⟩])
           (.cond (.t 26)
            ((.seq
             (.reg false [⟨none, .mv 4 (.c (.sc (.bool false)))⟩])
             (.ret)))
            (.skip)))))
         (.reg false [⟨none, .mv 15 (.t 5)⟩,
           ⟨none, .bin 16 .add (.t 15) (.c (.sc (.int .i64 1)))⟩,
           ⟨none, .mv 5 (.t 16)⟩])))))))))
    ((.seq
     (.reg false [⟨none, .mv 4 (.c (.sc (.bool true)))⟩])
     (.ret))))))))

abbrev SL (α : Type) := Option Bool × List α
def eI (n : Int) : D := .sc (.int .i64 n)
def eB (b : Bool) : D := .sc (.bool b)
def eS {α : Type} (sz : Nat) (f : α → D) (s : SL α) : D := .ls s.1 sz (s.2.map f)

structure Enc {α : Type} (f : α → D) (sz : Nat) (agg : Bool) : Prop where
 pos : 0 < sz
 size : ∀ x, (f x).size = sz
 isAg : ∀ x, (f x).isAg = agg
 sub : ∀ x, D.sub (f x) 0 sz agg = f x

def cut (x : Int) : Int := if x < 0 then -1 else x

theorem len_of_bd {nn : Option Bool} {sz : Nat} {ds : List D} {r : List D} (h : D.bdL (.ls nn sz ds :: r)) : ds.length ≤ maxEl := by simp only [D.bdL, D.bd] at h; exact h.1.1

def szL {α : Type} (sA : α → Int → Int) : List α → Int → Int
 | [], left => left
 | x :: r, left => if left < 0 then left else szL sA r (sA x left)
theorem szL_neg {α : Type} {sA : α → Int → Int} : ∀ {r : List α} {left : Int}, left < 0 → szL sA r left = left
 | [], _, _ => rfl
 | s :: r, left, h => by simp [szL, h]
def szS {α : Type} (sA : α → Int → Int) (s : SL α) (left : Int) : Int := szL sA s.2 (cut (left - s.2.length))

def eqL {α : Type} (q : α → α → Bool) : List α → List α → Bool
 | [], [] => true
 | x :: a, y :: b => q x y && eqL q a b
 | _, _ => false
theorem eqL_len {α : Type} {q : α → α → Bool} : ∀ {a b : List α}, a.length ≠ b.length → eqL q a b = false
 | [], [], h => (h rfl).elim
 | [], _ :: _, _ => rfl
 | _ :: _, [], _ => rfl
 | x :: a, y :: b, h => by simp only [eqL, eqL_len (a := a) (b := b) (by simpa using h), bJ]

def half {α : Type} (f : α → D) (z : D) (l : List α) (i : Nat) : List D := (l.take i).map f ++ List.replicate (l.length - i) z
theorem half_len {α : Type} {f : α → D} {z : D} {l : List α} {i : Nat} (h : i ≤ l.length) : (half f z l i).length = l.length := by simp [half]; omega
theorem half_zero {α : Type} {f : α → D} {z : D} {l : List α} : half f z l 0 = List.replicate l.length z := by simp [half]
theorem half_full {α : Type} {f : α → D} {z : D} {l : List α} {i : Nat} (h : l.length ≤ i) : half f z l i = l.map f := by
 simp [half, List.take_of_length_le h, Nat.sub_eq_zero_of_le h]
theorem half_at {α : Type} {f : α → D} {z : D} {l : List α} {i : Nat} (h : i < l.length) : D.at (half f z l i) i = z := by
 simp only [half, D.at, List.getD_eq_getElem?_getD]
 rw [List.getElem?_append_right (by simp; omega)]
 rw [List.getElem?_replicate, if_pos (by simp; omega)]
 rfl
theorem half_set {α : Type} {f : α → D} {z : D} {l : List α} {i : Nat} (h : i < l.length) : (half f z l i).set i (f l[i]) = half f z l (i + 1) := by
 unfold half
 rw [List.set_append_right _ _ (by simp; omega)]
 have e1 : l.length - i = (l.length - (i + 1)) + 1 := by omega
 have e2 : i - ((l.take i).map f).length = 0 := by simp; omega
 rw [e1, e2, List.replicate_succ, List.set_cons_zero, List.take_succ_eq_append_getElem h, List.map_append, List.append_assoc]
 rfl

section
variable {P : Program} (hm : P.follows .mixedOrders = true)
include hm

theorem af_szC {α : Type} {f : α → D} {sz : Nat} {agg : Bool} (e : Enc f sz agg) {g h : Nat} (hr : resF P g = some (27, cSzC h sz agg, [.t 4])) (sA : α → Int → Int) (s : SL α)
  (hc : ∀ x ∈ s.2, ∀ l : Int, 0 ≤ l → l ≤ 1048576 → AF P h [f x, eI l] (.own (eI (sA x l))) ∧ -1 ≤ sA x l ∧ sA x l ≤ 1048576) (left : Int) (h1 : -1 ≤ left) (h2 : left ≤ 1048576) :
  AF P g [eS sz f s, eI left] (.own (eI (szS sA s left))) := by
 refine af_of_res hr hm rfl fun hb => ?_
 have hl := len_of_bd hb
 unfold maxEl at hl
 simp only [lM] at hl
 have hp := e.pos
 simp -implicitDefEqProofs only [cSzC, eS, go_sem, eI, ↓reduceIte, Nat.reduceEqDiff, Nat.reduceAdd, lM]
 rw [wrap_i64 (by omega) (by omega)]
 refine ⟨fun h => D.Le.sc_eq ?_, fun h => ?_⟩
 ·simp only [szS, cut, if_pos h]; rw [szL_neg (by omega)]
 refine vc_loop (α := Nat × Int) (fun x => ⟨27, [(0, .im none (.ls s.1 sz (s.2.map f))), (1, .im none (.sc (.int .i64 x.2))), (5, .im none (.sc (.int .i64 x.1)))], []⟩)
  (fun x => x.1 ≤ s.2.length ∧ 0 ≤ x.2 ∧ x.2 ≤ 1048576 ∧ szL sA (s.2.drop x.1) x.2 = szS sA s left) (fun x => s.2.length - x.1) (0, left - s.2.length)
  (Ent.env (by simp only [subEnv, go_sem, ↓reduceIte, Nat.reduceEqDiff]; simp)) ⟨by simp, by simp; omega, by simp; omega, by simp only [szS, cut, if_neg h, List.drop_zero]⟩ ?_
 rintro ⟨i, l⟩ ⟨j1, j2, j3, j4⟩
 simp only at j1 j2 j3 j4
 by_cases hi : i < s.2.length
 ·have e1 := at_map (f := f) hi
  obtain ⟨a1, a2, a3⟩ := hc s.2[i] (List.getElem_mem _) l j2 j3
  simp -implicitDefEqProofs only [go_sem, ↓reduceIte, Nat.reduceEqDiff, e1, e.sub, e.size, e.isAg, hp, iL, hi, lM, iN, and_self, true_and, and_true, not_true_eq_false, false_implies, true_implies, Nat.zero_add, Nat.le_refl]
  refine ⟨id, callQ_self ?_ a1 ?_⟩
  ·exact rfl
  simp -implicitDefEqProofs only [go_sem, eI, ↓reduceIte, Nat.reduceEqDiff]
  rw [List.drop_eq_getElem_cons hi] at j4
  simp only [szL, if_neg (show ¬ l < 0 by omega)] at j4
  refine ⟨fun h => D.Le.sc_eq ?_, fun h => ?_⟩
  ·rw [← j4, szL_neg h]
   congr 1
   omega
  ·rw [wrap_i64 (by omega) (by omega)]
   refine ⟨(i + 1, sA s.2[i] l), ⟨by simp; omega, by simpa using h, a3, j4⟩, by simp; omega, Ent.env (by simp only [subEnv, go_sem, ↓reduceIte, Nat.reduceEqDiff]; simp)⟩
 ·simp -implicitDefEqProofs only [go_sem, ↓reduceIte, Nat.reduceEqDiff, iL, hi, lM, true_and, and_true, not_false_eq_true, false_implies, true_implies]
  refine D.Le.sc_eq ?_
  rw [← j4, List.drop_eq_nil_of_le (by omega)]
  rfl

theorem af_eqC {α : Type} {f : α → D} {sz : Nat} {agg : Bool} (e : Enc f sz agg) {g h : Nat} (hr : resF P g = some (27, cEqC h sz agg, [.t 4])) (q : α → α → Bool) (a b : SL α)
  (hc : ∀ x ∈ a.2, ∀ y ∈ b.2, AF P h [f x, f y] (.own (eB (q x y)))) :
  AF P g [eS sz f a, eS sz f b] (.own (eB (eqL q a.2 b.2))) := by
 refine af_of_res hr hm rfl fun hb => ?_
 have hl := len_of_bd hb
 have hl2 := len_of_bd hb.2
 unfold maxEl at hl hl2
 simp only [lM] at hl hl2
 have hp := e.pos
 simp -implicitDefEqProofs only [cEqC, eS, go_sem, eB, ↓reduceIte, Nat.reduceEqDiff, Nat.reduceAdd, lM]
 refine ⟨fun h => D.Le.sc_eq ?_, fun h => ?_⟩
 ·rw [eqL_len (by simp at h; omega)]
 have hlen : a.2.length = b.2.length := by simp at h; omega
 refine vc_loop (α := Nat) (fun i => ⟨27, [(0, .im none (.ls a.1 sz (a.2.map f))), (1, .im none (.ls b.1 sz (b.2.map f))), (5, .im none (.sc (.int .i64 i)))], []⟩)
  (fun i => i ≤ a.2.length ∧ eqL q (a.2.drop i) (b.2.drop i) = eqL q a.2 b.2) (fun i => a.2.length - i) 0
  (Ent.env (by simp only [subEnv, go_sem, ↓reduceIte, Nat.reduceEqDiff]; simp)) ⟨by simp, by simp⟩ ?_
 rintro i ⟨j1, j4⟩
 by_cases hi : i < a.2.length
 ·have hi2 : i < b.2.length := by omega
  have e1 := at_map (f := f) hi
  have e2 := at_map (f := f) hi2
  have a1 := hc a.2[i] (List.getElem_mem _) b.2[i] (List.getElem_mem _)
  simp -implicitDefEqProofs only [go_sem, ↓reduceIte, Nat.reduceEqDiff, e1, e2, e.sub, e.size, e.isAg, hp, hi2, iL, hi, lM, iN, and_self, true_and, and_true, not_true_eq_false, false_implies, true_implies, Nat.zero_add, Nat.le_refl]
  refine ⟨id, id, callQ_self ?_ a1 ?_⟩
  ·exact rfl
  simp -implicitDefEqProofs only [go_sem, eB, ↓reduceIte, Nat.reduceEqDiff]
  rw [List.drop_eq_getElem_cons hi, List.drop_eq_getElem_cons hi2] at j4
  simp only [eqL] at j4
  refine ⟨fun h => D.Le.sc_eq ?_, fun h => ?_⟩
  ·rw [← j4]
   simp at h
   simp [h]
  ·rw [wrap_i64 (by omega) (by omega)]
   refine ⟨i + 1, ⟨by omega, ?_⟩, by omega, Ent.env (by simp only [subEnv, go_sem, ↓reduceIte, Nat.reduceEqDiff]; simp)⟩
   rw [← j4]
   simp at h
   simp [h]
 ·simp -implicitDefEqProofs only [go_sem, ↓reduceIte, Nat.reduceEqDiff, iL, hi, lM, iN, true_and, and_true, not_false_eq_true, false_implies, true_implies, Nat.zero_add]
  refine D.Le.sc_eq ?_
  rw [← j4, List.drop_eq_nil_of_le (by omega), List.drop_eq_nil_of_le (by omega)]
  rfl

theorem af_eqS {g : Nat} (hr : resF P g = some (26, cEqS, [.t 4])) (a b : SL Int) :
  AF P g [eS 1 eI a, eS 1 eI b] (.own (eB (eqL (fun x y => x == y) a.2 b.2))) := by
 refine af_of_res hr hm rfl fun hb => ?_
 have hl := len_of_bd hb
 have hl2 := len_of_bd hb.2
 unfold maxEl at hl hl2
 simp only [lM] at hl hl2
 simp -implicitDefEqProofs only [cEqS, eS, go_sem, eB, ↓reduceIte, Nat.reduceEqDiff, Nat.reduceAdd, lM]
 refine ⟨fun h => D.Le.sc_eq ?_, fun h => ?_⟩
 ·rw [eqL_len (by simp at h; omega)]
 have hlen : a.2.length = b.2.length := by simp at h; omega
 refine vc_loop (α := Nat) (fun i => ⟨26, [(0, .im none (.ls a.1 1 (a.2.map eI))), (1, .im none (.ls b.1 1 (b.2.map eI))), (5, .im none (.sc (.int .i64 i)))], []⟩)
  (fun i => i ≤ a.2.length ∧ eqL (fun x y => x == y) (a.2.drop i) (b.2.drop i) = eqL (fun x y => x == y) a.2 b.2) (fun i => a.2.length - i) 0
  (Ent.env (by simp only [subEnv, go_sem, ↓reduceIte, Nat.reduceEqDiff]; simp)) ⟨by simp, by simp⟩ ?_
 rintro i ⟨j1, j4⟩
 by_cases hi : i < a.2.length
 ·have hi2 : i < b.2.length := by omega
  have e1 := at_map (f := eI) hi
  have e2 := at_map (f := eI) hi2
  simp -implicitDefEqProofs only [go_sem, eI, ↓reduceIte, Nat.reduceEqDiff, e1, e2, hi2, iL, hi, lM, iN, Nat.zero_lt_one, and_self, true_and, and_true, not_true_eq_false, false_implies, true_implies, Nat.zero_add, Nat.le_refl]
  rw [List.drop_eq_getElem_cons hi, List.drop_eq_getElem_cons hi2] at j4
  simp only [eqL] at j4
  refine ⟨fun h => D.Le.sc_eq ?_, fun h => ?_⟩
  ·rw [← j4]
   simp at h
   simp [h]
  ·rw [wrap_i64 (by omega) (by omega)]
   refine ⟨i + 1, ⟨by omega, ?_⟩, by omega, Ent.env (by simp only [subEnv, go_sem, ↓reduceIte, Nat.reduceEqDiff]; simp)⟩
   rw [← j4]
   simp at h
   simp [h]
 ·simp -implicitDefEqProofs only [go_sem, ↓reduceIte, Nat.reduceEqDiff, iL, hi, lM, iN, Nat.zero_lt_one, true_and, and_true, not_false_eq_true, false_implies, true_implies, Nat.zero_add]
  refine D.Le.sc_eq ?_
  rw [← j4, List.drop_eq_nil_of_le (by omega), List.drop_eq_nil_of_le (by omega)]
  rfl

theorem af_toC {α β : Type} {f : α → D} {f' : β → D} {tA : α → β} {sz bytes : Nat} {agg : Bool} {z : D} (e : Enc f sz agg) (e' : Enc f' sz agg) (hz : z.size = sz ∧ z.noPtr = true ∧ z.isAg = agg) {g h : Nat} (hr : resF P g = some (23, cToC h sz bytes agg z, [.t 2])) (s : SL α)
  (hby : bytes * s.2.length ≤ 140737488355328 ∧ s.2.length ≤ 140737488355328) (hc : ∀ x ∈ s.2, AF P h [f x] (.own (f' (tA x)))) : AF P g [eS sz f s] (.own (eS sz f' (some false, s.2.map tA))) := by
 refine af_of_res hr hm rfl fun hb => ?_
 have hl := len_of_bd hb
 unfold maxEl at hl
 simp only [lM] at hl
 have hp := e.pos
 simp -implicitDefEqProofs only [cToC, eS, go_sem, ↓reduceIte, Nat.reduceEqDiff, lM]
 refine ⟨⟨by omega, by omega, by rw [← Int.natCast_mul]; exact Int.ofNat_le.2 hby.1, by omega, hp, hz.1, hz.2.1⟩, ?_⟩
 refine vc_loop (α := Nat) (fun i => ⟨23, [(0, .im none (.ls s.1 sz (s.2.map f))), (3, .sm 7 0 s.2.length), (4, .im none (.sc (.int .i64 i)))], [(7, .ar true (some false) sz (half (fun x => f' (tA x)) z s.2 i))]⟩)
  (fun i => i ≤ s.2.length) (fun i => s.2.length - i) 0
  (by rw [half_zero]; exact Ent.env (by simp only [subEnv, go_sem, ↓reduceIte, Nat.reduceEqDiff]; simp)) (by simp) ?_
 rintro i j1
 have hh := half_len (f := fun x => f' (tA x)) (z := z) j1
 by_cases hi : i < s.2.length
 ·have e1 := at_map (f := f) hi
  have a1 := hc s.2[i] (List.getElem_mem _)
  have e2 := half_at (f := fun x => f' (tA x)) (z := z) hi
  have e3 := half_set (f := fun x => f' (tA x)) (z := z) hi
  simp -implicitDefEqProofs only [go_sem, ↓reduceIte, Nat.reduceEqDiff, e1, e.sub, e.size, e.isAg, hp, iL, hi, lM, iN, and_self, true_and, and_true, not_true_eq_false, false_implies, true_implies, Nat.zero_add, Nat.le_refl]
  refine ⟨id, callQ_self ?_ a1 ?_⟩
  ·exact rfl
  cases hnp : (f' (tA s.2[i])).flat with
  | true =>
   simp -implicitDefEqProofs only [go_sem, ↓reduceIte, Nat.reduceEqDiff, hnp, e'.size, hh, e2, e3, hz, iL, hi, iN, and_self, true_and, Nat.zero_add, Nat.le_refl]
   rw [wrap_i64 (by omega) (by omega)]
   exact ⟨hp, i + 1, by omega, by omega, Ent.env (by simp only [subEnv, go_sem, ↓reduceIte, Nat.reduceEqDiff]; simp)⟩
  | false =>
   simp -implicitDefEqProofs only [go_sem, ↓reduceIte, Nat.reduceEqDiff, Nat.reduceBEq, Nat.reduceBneDiff, hnp, e'.size, hh, e2, e3, hz, iL, hi, iN, and_self, true_and, Nat.zero_add, Nat.le_refl]
   rw [wrap_i64 (by omega) (by omega)]
   exact ⟨hp, i + 1, by omega, by omega, Ent.env (by simp only [subEnv, go_sem, ↓reduceIte, Nat.reduceEqDiff]; simp)⟩
 ·simp -implicitDefEqProofs only [go_sem, ↓reduceIte, Nat.reduceEqDiff, iL, hi, lM, iN, true_and, and_true, not_false_eq_true, false_implies, true_implies, Nat.zero_add]
  rw [half_full (by omega), List.map_map]
  exact ⟨by simp, D.Le.refl _⟩

end
end Go.Ax
namespace Go.Ax

theorem cut_ge (x : Int) : -1 ≤ cut x := by unfold cut; split <;> omega
theorem cut_le {x b : Int} (h : x ≤ b) (hb : -1 ≤ b) : cut x ≤ b := by unfold cut; split <;> omega
theorem cut_nonneg {x : Int} (h : 0 ≤ cut x) : 0 ≤ x ∧ cut x = x := by
 unfold cut at h ⊢
 split at h
 ·omega
 ·next hx => rw [if_neg hx]; omega
theorem szL_in {α : Type} {sA : α → Int → Int} : ∀ {r : List α} {l : Int}, (∀ x ∈ r, ∀ l, 0 ≤ l → l ≤ 1048576 → -1 ≤ sA x l ∧ sA x l ≤ l) → -1 ≤ l → l ≤ 1048576 → -1 ≤ szL sA r l ∧ szL sA r l ≤ l
 | [], l, _, h1, h2 => ⟨h1, by simp [szL]⟩
 | x :: r, l, h, h1, h2 => by
  simp only [szL]
  split
  ·exact ⟨h1, by omega⟩
  ·have a := h x (by simp) l (by omega) h2
   have b := szL_in (r := r) (l := sA x l) (fun y hy => h y (by simp [hy])) a.1 (by omega)
   omega
theorem szL_fit {α : Type} {sA : α → Int → Int} {fit : α → Prop} : ∀ {r : List α} {l : Int}, (∀ x ∈ r, ∀ l, 0 ≤ l → l ≤ 1048576 → -1 ≤ sA x l ∧ sA x l ≤ l) →
  (∀ x ∈ r, ∀ l, l ≤ 1048576 → 0 ≤ l → 0 ≤ sA x l → fit x) → l ≤ 1048576 → 0 ≤ szL sA r l → ∀ x ∈ r, fit x
 | [], _, _, _, _, _ => by simp
 | y :: r, l, h, hf, h1, h2 => by
  simp only [szL] at h2
  split at h2
  ·omega
  ·next hl =>
   have a := h y (by simp) l (by omega) h1
   have hy0 : 0 ≤ sA y l := by
    by_cases h' : sA y l < 0
    ·rw [szL_neg h'] at h2; exact h2
    ·omega
   intro x hx
   rcases List.mem_cons.1 hx with rfl | hx
   ·exact hf _ (by simp) l h1 (by omega) hy0
   ·exact szL_fit (fun z hz => h z (by simp [hz])) (fun z hz => hf z (by simp [hz])) (by omega) h2 x hx
theorem szS_in {α : Type} {sA : α → Int → Int} {s : SL α} {l : Int} (h : ∀ x ∈ s.2, ∀ l, 0 ≤ l → l ≤ 1048576 → -1 ≤ sA x l ∧ sA x l ≤ l) (h1 : 0 ≤ l) (h2 : l ≤ 1048576) : -1 ≤ szS sA s l ∧ szS sA s l ≤ l := by
 have c1 := cut_ge (l - s.2.length)
 have c2 : cut (l - s.2.length) ≤ l := cut_le (by omega) (by omega)
 have := szL_in h c1 (by omega)
 unfold szS
 omega
theorem szS_fit {α : Type} {sA : α → Int → Int} {fit : α → Prop} {s : SL α} {l : Int} (h : ∀ x ∈ s.2, ∀ l, 0 ≤ l → l ≤ 1048576 → -1 ≤ sA x l ∧ sA x l ≤ l)
  (hf : ∀ x ∈ s.2, ∀ l, l ≤ 1048576 → 0 ≤ l → 0 ≤ sA x l → fit x) (h2 : l ≤ 1048576) (h0 : 0 ≤ l) (h3 : 0 ≤ szS sA s l) : s.2.length ≤ 1048576 ∧ ∀ x ∈ s.2, fit x := by
 unfold szS at h3
 have c2 : cut (l - s.2.length) ≤ l := cut_le (by omega) (by omega)
 have b : 0 ≤ cut (l - s.2.length) := by
  by_cases h' : cut (l - s.2.length) < 0
  ·rw [szL_neg h'] at h3; omega
  ·omega
 have b' := (cut_nonneg b).1
 exact ⟨by omega, szL_fit h hf (by omega) h3⟩
theorem eqL_refl {α : Type} {q : α → α → Bool} : ∀ {l : List α}, (∀ x ∈ l, q x x = true) → eqL q l l = true
 | [], _ => rfl
 | x :: l, h => by
  have := eqL_refl (l := l) (q := q) fun y hy => h y (by simp [hy])
  simp [eqL, h x (by simp), this]

structure Fam (P : Program) {α : Type} (f : α → D) (sF tF qF : Nat) where
 s : α → Int → Int
 t : α → α
 q : α → α → Bool
 fit : α → Prop
 s_in : ∀ x l, 0 ≤ l → l ≤ 1048576 → -1 ≤ s x l ∧ s x l ≤ l
 s_fit : ∀ x l, l ≤ 1048576 → 0 ≤ l → 0 ≤ s x l → fit x
 q_refl : ∀ x, q x x = true
 afS : ∀ x l, 0 ≤ l → l ≤ 1048576 → AF P sF [f x, eI l] (.own (eI (s x l)))
 afT : ∀ x, fit x → AF P tF [f x] (.own (f (t x)))
 afQ : ∀ x y, AF P qF [f x, f y] (.own (eB (q x y)))

section
variable {P : Program} (hm : P.follows .mixedOrders = true)

theorem encS {α : Type} (f : α → D) (sz : Nat) : Enc (eS sz f) 1 false := ⟨by omega, fun _ => rfl, fun _ => rfl, fun _ => rfl⟩
end

def memN : List Nat → Nat → Bool
 | [], _ => false
 | a :: l, k => if a = k then true else memN l k
@[go_sem] theorem memN_nil {k : Nat} : memN [] k = false := rfl
@[go_sem] theorem memN_cons {a k : Nat} {l : List Nat} : memN (a :: l) k = if a = k then true else memN l k := rfl

def keep (ks : List Nat) : List (Nat × AV) → List (Nat × AV)
 | [] => []
 | (k, v) :: r => if memN ks k = true then keep ks r else (k, v) :: keep (k :: ks) r
@[go_sem] theorem keep_nil {ks : List Nat} : keep ks [] = [] := rfl
@[go_sem] theorem keep_cons {ks : List Nat} {k : Nat} {v : AV} {r : List (Nat × AV)} : keep ks ((k, v) :: r) = if memN ks k = true then keep ks r else (k, v) :: keep (k :: ks) r := rfl
theorem memN_iff {k : Nat} : ∀ {l : List Nat}, memN l k = true ↔ k ∈ l
 | [] => by simp [memN]
 | a :: l => by
  simp only [memN]
  split
  ·next h => simp [h]
  ·next h => rw [memN_iff]; simp [Ne.symm h]
theorem keep_sub {e : List (Nat × AV)} : ∀ {ks : List Nat} {r : List (Nat × AV)}, (∀ t, t ∉ ks → lk e t = lk r t) → subEnv e (keep ks r)
 | _, [], _ => trivial
 | ks, (k, v) :: r, h => by
  simp only [keep]
  split
  ·next hk =>
   refine keep_sub fun t ht => ?_
   rw [h t ht]
   have : k ≠ t := by rintro rfl; exact ht (memN_iff.1 hk)
   simp [lk, this]
  ·next hk =>
   refine ⟨by rw [h k (fun hm => hk (memN_iff.2 hm))]; simp [lk], keep_sub fun t ht => ?_⟩
   simp only [List.mem_cons, not_or] at ht
   rw [h t ht.2]
   simp [lk, Ne.symm ht.1]
theorem subEnv_append {e : List (Nat × AV)} : ∀ {a b : List (Nat × AV)}, subEnv e a → subEnv e b → subEnv e (a ++ b)
 | [], _, _, h => h
 | (_, _) :: _, _, h1, h2 => ⟨h1.1, subEnv_append h1.2 h2⟩

theorem vc_on {P : Program} {c : RC} {K : Exit → St → Prop} {α : Type} {n : Nat} {env : List (Nat × AV)} {us : List (Nat × U)} (ks : List Nat) (upd : α → List (Nat × AV)) (J : α → Prop) (μ : α → Nat) (x0 : α)
  (h0 : subEnv env (upd x0)) (hJ : J x0)
  (h : ∀ x, J x → vcR P c ⟨n, upd x ++ keep ks env, us⟩ (kseq (fun s => ∃ y, J y ∧ μ y < μ x ∧ Ent s ⟨n, upd y ++ keep ks env, us⟩) K)) : vcR P (.loop c) ⟨n, env, us⟩ K :=
 vc_loop (fun x => ⟨n, upd x ++ keep ks env, us⟩) J μ x0 (Ent.env (subEnv_append h0 (keep_sub fun _ _ => rfl))) hJ h

theorem Ent.env_us {n : Nat} {e e' : List (Nat × AV)} {us us' : List (Nat × U)} (hu : us = us') (h : subEnv e e') : Ent ⟨n, e, us⟩ ⟨n, e', us'⟩ := hu ▸ Ent.env h

theorem all_take_succ {α : Type} {p : α → Bool} {l : List α} {i : Nat} (hi : i < l.length) (h : (l.take i).all p = true) (hx : p l[i] = true) : (l.take (i + 1)).all p = true := by
 rw [List.take_succ_eq_append_getElem hi, List.all_append, h]
 simp [hx]
theorem all_of_take {α : Type} {p : α → Bool} {l : List α} {i : Nat} (hi : ¬ i < l.length) (h : (l.take i).all p = true) : l.all p = true := by
 rwa [List.take_of_length_le (by omega)] at h
theorem all_fail {α : Type} {p : α → Bool} {l : List α} {i : Nat} (hi : i < l.length) (hx : p l[i] = false) : l.all p = false :=
 List.all_eq_false.2 ⟨l[i], List.getElem_mem hi, by simp [hx]⟩
def nx (x : Int) (k : Int → Int) : Int := if x < 0 then -1 else k x
theorem nx_neg {x : Int} {k : Int → Int} (h : x < 0) : nx x k = -1 := if_pos h
theorem nx_pos {x : Int} {k : Int → Int} (h : ¬ x < 0) : nx x k = k x := if_neg h
theorem nx_in {x l : Int} {k : Int → Int} (hx : -1 ≤ x ∧ x ≤ l) (h0 : 0 ≤ l) (h1 : l ≤ 1048576) (hk : ∀ y, 0 ≤ y → y ≤ l → -1 ≤ k y ∧ k y ≤ l) : -1 ≤ nx x k ∧ nx x k ≤ l := by
 by_cases h : x < 0
 ·rw [nx_neg h]; omega
 ·rw [nx_pos h]; exact hk x (by omega) hx.2
theorem in_tr {a y l : Int} (h : y ≤ l) (h' : -1 ≤ a ∧ a ≤ y) : -1 ≤ a ∧ a ≤ l := ⟨h'.1, by omega⟩
theorem nx_fit {x : Int} {k : Int → Int} (h : 0 ≤ nx x k) : 0 ≤ x ∧ 0 ≤ k x := by
 by_cases h' : x < 0
 ·rw [nx_neg h'] at h; omega
 ·rw [nx_pos h'] at h; omega
end Go.Ax
namespace Go.Ax
set_option linter.unusedSimpArgs false

def cEfA (sz : Nat) (z : D) : RC :=
 (.seq
  (.reg false [⟨none, .mv 6 (.c (.sc (.bool false)))⟩])
  ((.seq
   ((.seq
    (.reg false [⟨none, .mv 10 (.t 0)⟩,
      ⟨none, .len 11 (.t 10)⟩,
      ⟨none, .mv 12 (.t 1)⟩,
      ⟨none, .len 13 (.t 12)⟩,
      ⟨none, .bin 14 .neq (.t 11) (.t 13)⟩])
    (.cond (.t 14)
     ((.seq
      (.reg false [⟨none, .mv 6 (.c (.sc (.bool false)))⟩])
      (.ret)))
     (.skip))))
   ((.seq
    ((.seq
     (.reg false [⟨none, .mv 15 (.t 0)⟩,
       ⟨none, .len 16 (.t 15)⟩,
       ⟨none, .mv 17 (.c (.sc (.int .i64 0)))⟩])
     (.blk 0
      (.loop
       ((.seq
        (.reg false [⟨none, .bin 18 .lss (.t 17) (.t 16)⟩])
        ((.seq
         (.cond (.t 18)
          (.skip)
          (.exit 0))
         ((.seq
          (.blk 1
           ((.seq
            (.reg false [⟨none, .mv 19 (.t 17)⟩,
              ⟨none, .ia 20 sz (.t 15) (.t 17)⟩,
              ⟨none, .ld 21 true sz (.t 20)⟩,
              ⟨none, .zer 8 sz z⟩,
              ⟨none, .mv 7 (.t 19)⟩,
              ⟨none, .st sz (.t 8) (.t 21)⟩])
            ((.seq
             (.reg false [⟨none, .mv 22 (.t 1)⟩,
               ⟨none, .mv 23 (.t 7)⟩,
               ⟨none, .ia 24 sz (.t 22) (.t 23)⟩,
               ⟨none, .ld 25 true sz (.t 24)⟩,
               ⟨none, .zer 9 sz z⟩,
               ⟨none, .st sz (.t 9) (.t 25)⟩])
             ((.seq
              (.reg false [⟨none, .mv 26 (.t 2)⟩,
                ⟨none, .ld 27 true sz (.t 8)⟩,
                ⟨none, .ld 28 true sz (.t 9)⟩,
                ⟨none, .calv (some 29) (.t 26) [(.t 27), (.t 28)]⟩,
                ⟨none, .un 30 .not (.t 29)⟩])
              (.cond (.t 30)
               ((.seq
                (.reg false [⟨none, .mv 6 (.c (.sc (.bool false)))⟩])
                (.ret)))
               (.skip)))))))))
          (.reg false [⟨none, .bin 31 .add (.t 17) (.c (.sc (.int .i64 1)))⟩,
            ⟨none, .mv 17 (.t 31)⟩])))))))))))
    ((.seq
     (.reg false [⟨none, .mv 6 (.c (.sc (.bool true)))⟩])
     (.ret))))))))
theorem eqL_step {α : Type} {q : α → α → Bool} {l m : List α} {i : Nat} {x y : α} {r : Bool} (j : (q x y && eqL q (l.drop (i + 1)) (m.drop (i + 1))) = r) (h : q x y = true) : eqL q (l.drop (i + 1)) (m.drop (i + 1)) = r := by
 rw [← j, h, bI]
section
variable {P : Program} (hm : P.follows .mixedOrders = true)
include hm
theorem af_efA {α : Type} {f : α → D} {sz : Nat} {z : D} (e : Enc f sz true) (hz : z.size = sz ∧ z.noPtr = true) (hz2 : z.isAg = true) {g h : Nat} (hr : resF P g = some (32, cEfA sz z, [.t 6])) (q : α → α → Bool) (a b : SL α) (hc : ∀ x ∈ a.2, ∀ y ∈ b.2, AF P h [f x, f y] (.own (eB (q x y)))) :
  AF P g [eS sz f a, eS sz f b, .sc (.func (.func h) #[] #[])] (.own (eB (eqL q a.2 b.2))) := by
 refine af_of_res hr hm rfl fun hb => ?_
 have hl := len_of_bd hb
 have hl2 := len_of_bd hb.2
 unfold maxEl at hl hl2
 simp only [lM] at hl hl2
 have hp := e.pos
 cases h0 : ((a.2.length : Int) == b.2.length)
 ·simp +contextual -implicitDefEqProofs only [cEfA, eS, eB, lM, bne, h0, bN, eqL_len (show a.2.length ≠ b.2.length by simp at h0; omega), go_sem, eB, ↓reduceIte, Nat.reduceEqDiff, Nat.reduceAdd, and_self]
 have hlen : a.2.length = b.2.length := by simp at h0; omega
 simp +contextual -implicitDefEqProofs only [cEfA, eS, eB, lM, bne, h0, bT, go_sem, eB, ↓reduceIte, Nat.reduceEqDiff, Nat.reduceAdd, true_and]
 refine vc_on (α := Nat) [6, 7, 8, 9, 17, 18, 19, 20, 21, 22, 23, 24, 25, 26, 27, 28, 29, 30, 31] (fun i => [(17, .im none (.sc (.int .i64 i)))]) (fun i => i ≤ a.2.length ∧ eqL q (a.2.drop i) (b.2.drop i) = eqL q a.2 b.2) (fun i => a.2.length - i) 0
  (by simp only [subEnv, go_sem, ↓reduceIte]; simp) ⟨by simp, by simp⟩ ?_
 rintro i ⟨j1, j4⟩
 by_cases hi : i < a.2.length
 ·have hi2 : i < b.2.length := by omega
  have e1 := at_map (f := f) hi
  have e2 := at_map (f := f) hi2
  rw [List.drop_eq_getElem_cons hi, List.drop_eq_getElem_cons hi2] at j4
  simp only [eqL] at j4
  cases n1 : (f a.2[i]).flat <;> cases n2 : (f b.2[i]).flat
  all_goals
   simp +contextual -implicitDefEqProofs only [e1, e2, e.sub, e.size, e.isAg, hp, hi, hi2, iL, lM, iN, Nat.zero_lt_one, Nat.zero_add, Nat.le_refl, n1, n2, hz, hz2, noPtrs, go_sem, ↓reduceIte, Nat.reduceEqDiff, Nat.reduceBneDiff, decide_true, and_self, true_and, implies_true, bF, List.cons_append, List.nil_append]
   refine callQ_self ?_ (hc a.2[i] (List.getElem_mem _) b.2[i] (List.getElem_mem _)) ?_
   ·exact rfl
   cases h : q a.2[i] b.2[i]
   ·simp +contextual -implicitDefEqProofs only [eB, bN, go_sem, eB, ↓reduceIte, true_and, and_true]
    exact D.Le.sc_eq (by rw [← j4, h]; rfl)
   ·simp +contextual -implicitDefEqProofs only [eB, bT, go_sem, eB, ↓reduceIte, Nat.reduceEqDiff, true_and]
    rw [wrap_i64 (by omega) (by omega)]
    exact ⟨i + 1, ⟨by omega, eqL_step j4 h⟩, by omega, Ent.clear (by simp only [subEnv, go_sem, ↓reduceIte, Nat.reduceEqDiff]; simp) rfl⟩
 ·simp +contextual -implicitDefEqProofs only [hi, iL, go_sem, ↓reduceIte, Nat.reduceEqDiff, decide_false, true_and, and_true, bF, List.cons_append, List.nil_append]
  refine D.Le.sc_eq ?_
  rw [← j4, List.drop_eq_nil_of_le (by omega), List.drop_eq_nil_of_le (by omega)]
  rfl
end
end Go.Ax
namespace Go.Ax
open Go.ChangeShapes Go.WideShapes Go.RowKit

section
variable {P : Program}

def Rd (P : Program) (n : Nat) (t : TypeId) {α : Type} (f : α → D) (ok : α → Prop) : Prop :=
 ∀ (H : Type) (enc : TypeId × Value → H) (w : World) (cs : List Value) (x : DataW H × List MemPlace),
  DataW.trod enc P w 0 (fun _ => true) true n t cs = some x → ∃ a F, Rep w.heap (f a) F cs ∧ ok a

theorem rd_zero {t : TypeId} {α : Type} {f : α → D} {ok : α → Prop} : Rd P 0 t f ok := by
 intro H enc w cs x h
 simp [DataW.trod] at h

theorem rd_map {n : Nat} {t : TypeId} {α β : Type} {f : α → D} {ok : α → Prop} {f' : β → D} {ok' : β → Prop} (g : α → β) (h1 : ∀ a, f' (g a) = f a) (h2 : ∀ a, ok a → ok' (g a)) (h : Rd P n t f ok) : Rd P n t f' ok' := by
 intro H enc w cs x hx
 obtain ⟨a, F, r, o⟩ := h _ enc w cs x hx
 exact ⟨g a, F, by rw [h1]; exact r, h2 a o⟩

theorem rd_int {n : Nat} {t : TypeId} {k : IntKind} (ht : P.underlying t = some (.int k)) : Rd P n t (fun m : Int => .sc (.int k m)) (fun m => (Lit.int k m).wf = true) := by
 intro H enc w cs x h
 obtain ⟨m, rfl, _, hw⟩ := DataW.trod_int ht h
 exact ⟨m, [], by simp [Rep, Value.oneCell'], hw⟩

theorem add_block (a : Addr) (i : Nat) : (a.add i).block = a.block := by
 unfold Addr.add
 split <;> rfl

theorem add_off (a : Addr) (i : Nat) : (a.add i).off = a.off + i := by
 unfold Addr.add
 split <;> simp_all

theorem cells_at {w : World} {a : Addr} {n : Nat} {cs : List Value} (h : w.cells? 0 a n = some cs) (hn : 0 < n) :
  ∃ c e fr, w.heap[a.block]? = some (.cells c e fr) ∧ a.spot = none ∧ a.off + n ≤ c.size ∧ cs = (c.toList.drop a.off).take n := by
 unfold World.cells? at h
 rw [if_pos (Nat.zero_le _)] at h
 have hl : cs.length = n := by simpa using mapM_len h
 have hg : ∀ i, i < n → w.cell? (a.add i) = cs[i]? := by
  intro i hi
  obtain ⟨b, h1, h2⟩ := mapM_get h i i (by simp [hi])
  rw [h1, h2]
 have h0 := hg 0 hn
 rw [List.getElem?_eq_getElem (by omega)] at h0
 cases hb : w.heap[a.block]? with
 | none => simp [World.cell?, add_block, hb] at h0
 | some o =>
  cases o with
  | cells c e fr =>
   have hsp : a.spot = none := by
    cases hs : a.spot with
    | none => rfl
    | some s => simp [World.cell?, Addr.add, hb, hs] at h0
   have hc : ∀ i, i < n → c[a.off + i]? = cs[i]? := by
    intro i hi
    have := hg i hi
    have hs2 : (a.add i).spot.isSome = false := by
     cases hs2 : (a.add i).spot.isSome with
     | false => rfl
     | true =>
      rw [List.getElem?_eq_getElem (by omega)] at this
      simp [World.cell?, add_block, hb, hs2] at this
    simpa [World.cell?, add_block, add_off, hb, hs2] using this
   have hlast := hc (n - 1) (by omega)
   rw [List.getElem?_eq_getElem (by omega)] at hlast
   have hle := (Array.getElem?_eq_some_iff.1 hlast).1
   refine ⟨c, e, fr, rfl, hsp, by omega, ?_⟩
   apply List.ext_getElem?
   intro i
   by_cases hi : i < n
   ·rw [← hc i hi, List.getElem?_take_of_lt hi, List.getElem?_drop, Array.getElem?_toList]
   ·rw [List.getElem?_eq_none (by omega), List.getElem?_eq_none (by simp; omega)]
  | _ => simp [World.cell?, add_block, hb] at h0

theorem repL_rows {h : Heap} {α : Type} {f : α → D} {ok : α → Prop} {c : List Value} {sz : Nat} :
  ∀ (m o : Nat), (∀ i, i < m → ∃ a F, Rep h (f a) F ((c.drop (o + i * sz)).take sz) ∧ ok a) →
   ∃ (as : List α) (F : List Nat), as.length = m ∧ RepL h (as.map f) F ((c.drop o).take (m * sz)) ∧ ∀ a ∈ as, ok a
 | 0, o, _ => ⟨[], [], rfl, by simp [RepL], by simp⟩
 | m + 1, o, hr => by
  obtain ⟨a, F, h1, h2⟩ := hr 0 (by omega)
  obtain ⟨as, F', h3, h4, h5⟩ := repL_rows m (o + sz) fun i hi => by
   have := hr (i + 1) (by omega)
   rw [show o + (i + 1) * sz = o + sz + i * sz by rw [Nat.add_mul]; omega] at this
   exact this
  refine ⟨a :: as, F ++ F', by simp [h3], ?_, by simp; exact ⟨h2, h5⟩⟩
  simp only [lC, RepL]
  refine ⟨F, F', _, _, rfl, ?_, by simpa using h1, h4⟩
  rw [show (m + 1) * sz = sz + m * sz by rw [Nat.add_mul]; omega, List.take_add, List.drop_drop]

theorem rd_slice {n : Nat} {t e : TypeId} {sz : Nat} {α : Type} {f : α → D} {ok : α → Prop} (ht : P.underlying t = some (.slice e)) (hs : P.cellsOf e = sz) (h0 : 0 < sz) (hf : ∀ a, (f a).size = sz)
  (h : Rd P n e f ok) : Rd P (n + 1) t (eS sz f) (fun s => ((s.1 = some true → s.2 = []) ∧ s.1.isSome = true) ∧ s.2.length ≤ maxEl ∧ ∀ a ∈ s.2, ok a) := by
 intro H enc w cs x hx
 rcases DataW.trod_slice ht hx with ⟨rfl, rfl⟩ | ⟨a, len, cap, elems, rest, m, hm, rfl, rfl, hb, hlc, hcm, hlen, hel, hre, _⟩
 ·refine ⟨(some true, []), [], ?_, by simp, by simp [maxEl], by simp⟩
  simp only [Rep, eS]
  exact .inl ⟨none, by simp⟩
 ·obtain rfl : n = m := by omega
  obtain ⟨hrl, hre⟩ := hre rfl
  by_cases hc0 : cap = 0
  ·subst hc0
   obtain rfl : len = 0 := by omega
   refine ⟨(some false, []), [], ?_, by simp, by simp [maxEl], by simp⟩
   simp only [Rep, eS]
   exact .inl ⟨some a, by simp⟩
  ·have hany : ∀ j, j < cap → ∃ c, w.cells? 0 (a.add (j * sz)) sz = some c ∧ ∃ y, DataW.trod enc P w 0 (fun _ => true) true n e c = some y := by
    intro j hj
    rw [hs] at hel hre
    by_cases hjl : j < len
    ·have := hel j hjl
     rw [List.getElem?_eq_getElem (by omega), oB] at this
     obtain ⟨c, h1, h2⟩ := this
     exact ⟨c, h1, _, h2⟩
    ·have := hre (j - len) (by omega)
     rw [List.getElem?_eq_getElem (by omega), oB, show len + (j - len) = j by omega] at this
     obtain ⟨c, h1, h2⟩ := this
     exact ⟨c, h1, _, h2⟩
   obtain ⟨c1, hc1, _⟩ := hany (cap - 1) (by omega)
   obtain ⟨c, e', fr, hbk, _, hsz, _⟩ := cells_at hc1 h0
   obtain ⟨c2, hc2, _⟩ := hany 0 (by omega)
   obtain ⟨_, _, _, _, hsp, _, _⟩ := cells_at hc2 h0
   simp only [Nat.zero_mul, show ∀ a : Addr, a.add 0 = a from fun a => by simp [Addr.add]] at hsp
   simp only [add_block, add_off] at hbk hsz
   have hall : a.off + cap * sz ≤ c.size := by
    have : cap * sz = (cap - 1) * sz + sz := by
     conv => lhs; rw [show cap = cap - 1 + 1 by omega, Nat.add_mul, Nat.one_mul]
    omega
   obtain ⟨as, F, q1, q2, q3⟩ := repL_rows (h := w.heap) (f := f) (ok := ok) (c := c.toList) (sz := sz) len a.off fun i hi => by
    obtain ⟨ci, hci, y, hy⟩ := hany i (by omega)
    obtain ⟨c', e'', fr', hbk', _, _, hcs⟩ := cells_at hci h0
    simp only [add_block, add_off] at hbk' hcs
    rw [hbk] at hbk'
    cases hbk'
    obtain ⟨z, F, r1, r2⟩ := h _ enc w ci y hy
    exact ⟨z, F, by rw [← hcs]; exact r1, r2⟩
   refine ⟨(some false, as), a.block :: F, ?_, by simp, by simp [q1]; exact Nat.le_trans (Nat.le_trans hlc hcm) (by decide), q3⟩
   simp only [Rep, eS]
   refine .inr ⟨a.block, a.off, cap, c, e', fr, F, ?_, rfl, by simp, by simp [q1, hlc], by simp [q1]; exact Nat.le_trans (Nat.le_trans hlc hcm) (by decide), hbk, hall, ?_, by simpa [q1] using q2⟩
   ·rw [lM, q1]
    congr 3
    cases a
    simp_all
   ·intro d hd
    obtain ⟨z, _, rfl⟩ := List.mem_map.1 hd
    exact hf z

def RdF (P : Program) (n : Nat) (fs : List Field) (off : Nat) {α : Type} (f : α → List D) (ok : α → Prop) : Prop :=
 ∀ (H : Type) (enc : TypeId × Value → H) (w : World) (cs : List Value), cs.length = off + ((fs.map fun g => P.cellsOf g.type).foldr (· + ·) 0) →
  (∀ g ∈ fs, ∃ x : DataW H × List MemPlace, DataW.trod enc P w 0 (fun _ => true) true n g.type ((cs.drop g.offset).take (P.cellsOf g.type)) = some x) →
  ∃ a F, RepL w.heap (f a) F (cs.drop off) ∧ ok a

theorem rdf_cell {n : Nat} {g : Field} {fs : List Field} {off k : Nat} {α β : Type} {f : α → D} {ok : α → Prop} {f' : β → List D} {ok' : β → Prop} (ho : g.offset = off) (hk : P.cellsOf g.type = k)
  (h : Rd P n g.type f ok) (h' : RdF P n fs (off + k) f' ok') : RdF P n (g :: fs) off (fun p : α × β => f p.1 :: f' p.2) (fun p => ok p.1 ∧ ok' p.2) := by
 intro H enc w cs hl hx
 subst ho hk
 obtain ⟨x, hx0⟩ := hx g (by simp)
 obtain ⟨a, F, r, o⟩ := h _ enc w _ x hx0
 obtain ⟨b, F', r', o'⟩ := h' _ enc w cs (by simp only [lC, List.foldr_cons] at hl; omega) fun g' hg' => hx g' (by simp [hg'])
 refine ⟨(a, b), F ++ F', ?_, o, o'⟩
 simp only [RepL]
 exact ⟨F, F', _, _, rfl, by rw [← List.drop_drop, List.take_append_drop], r, r'⟩

theorem rdf_cell1 {n : Nat} {g : Field} {off : Nat} {α : Type} {f : α → D} {ok : α → Prop} (ho : g.offset = off)
  (h : Rd P n g.type f ok) : RdF P n [g] off (fun p : α => [f p]) ok := by
 intro H enc w cs hl hx
 subst ho
 obtain ⟨x, hx0⟩ := hx g (by simp)
 obtain ⟨a, F, r, o⟩ := h _ enc w _ x hx0
 refine ⟨a, F, ?_, o⟩
 simp only [RepL]
 refine ⟨F, [], _, [], by simp, ?_, r, rfl, rfl⟩
 simp only [lC, lN, List.foldr_cons, List.foldr_nil] at hl
 rw [List.append_nil, List.take_of_length_le (by simp; omega)]

theorem rdf_ag {n : Nat} {g : Field} {fs : List Field} {off k : Nat} {α β : Type} {f : α → List D} {ok : α → Prop} {f' : β → List D} {ok' : β → Prop} (ho : g.offset = off) (hk : P.cellsOf g.type = k)
  (h : Rd P n g.type (fun a => .ag (f a)) ok) (h' : RdF P n fs (off + k) f' ok') : RdF P n (g :: fs) off (fun p : α × β => f p.1 ++ f' p.2) (fun p => ok p.1 ∧ ok' p.2) := by
 intro H enc w cs hl hx
 subst ho hk
 obtain ⟨x, hx0⟩ := hx g (by simp)
 obtain ⟨a, F, r, o⟩ := h _ enc w _ x hx0
 obtain ⟨b, F', r', o'⟩ := h' _ enc w cs (by simp only [lC, List.foldr_cons] at hl; omega) fun g' hg' => hx g' (by simp [hg'])
 refine ⟨(a, b), F ++ F', ?_, o, o'⟩
 simp only [Rep] at r
 rw [← List.take_append_drop (P.cellsOf g.type) (cs.drop g.offset), List.drop_drop]
 exact RepL.append r.2 r'

theorem rd_struct {n : Nat} {t : TypeId} {fs : Array Field} {α : Type} {f : α → List D} {ok : α → Prop} (ht : P.underlying t = some (.struct fs)) (hc : P.cellsOf t = (fs.toList.map fun g => P.cellsOf g.type).foldr (· + ·) 0)
  (hf : ∀ a, ∀ d ∈ f a, d.size = 1 ∧ d.isAg = false) (h : RdF P n fs.toList 0 f ok) : Rd P (n + 1) t (fun a => .ag (f a)) ok := by
 intro H enc w cs x hx
 obtain ⟨xs, m, hm, rfl, hl, hxl, hg⟩ := DataW.trod_struct ht hx
 obtain rfl : n = m := by omega
 obtain ⟨a, F, r, o⟩ := h _ enc w cs (by omega) fun g hgm => by
  obtain ⟨i, hi, rfl⟩ := List.getElem_of_mem hgm
  have hi' : i < fs.size := by simpa using hi
  have := hg i fs[i] (by simp [hi'])
  rw [List.getElem?_eq_getElem (by omega)] at this
  exact ⟨_, by simpa using this⟩
 refine ⟨a, F, ?_, o⟩
 simp only [Rep]
 exact ⟨hf a, by simpa using r⟩

def Arg (P : Program) (t : TypeId) {α : Type} (f : α → D) (ok : α → Prop) : Prop :=
 (∀ n, Rd P n t f ok) ∧ (((∀ a, (f a).isAg = true) ∧ ∃ fs, P.underlying t = some (.struct fs)) ∨
  ((∀ a, (f a).isAg = false) ∧ (match P.underlying t with | some (.struct _) | some (.array _ _) => false | _ => true) = true))

theorem rep_one {h : Heap} {d : D} {F : List Nat} {cs : List Value} (hr : Rep h d F cs) (hd : d.isAg = false) : ∃ c, cs = [c] ∧ c.oneCell' = true := by
 cases d with
 | sc v => simp only [Rep] at hr; exact ⟨v, hr.2.1, hr.2.2⟩
 | ag ds => simp [D.isAg] at hd
 | ls nn sz ds =>
  simp only [Rep] at hr
  rcases hr with ⟨p, rfl, _⟩ | ⟨b, off, cap, c, e, fr, F', rfl, _⟩
  ·exact ⟨_, rfl, rfl⟩
  ·exact ⟨_, rfl, rfl⟩
 | pt d j =>
  simp only [Rep] at hr
  obtain ⟨b, off, c, e, fr, F', rfl, _⟩ := hr
  exact ⟨_, rfl, rfl⟩
 | jk => simp only [Rep] at hr; obtain ⟨_, v, rfl, hv⟩ := hr; exact ⟨v, rfl, hv⟩
 | fn f ds => simp only [Rep] at hr; obtain ⟨vs, rfl, _⟩ := hr; exact ⟨_, rfl, rfl⟩
 | lc b o d => simp only [Rep] at hr; rcases hr.1 with ⟨_, _, rfl⟩ | rfl <;> exact ⟨_, rfl, rfl⟩

theorem arg_of {t : TypeId} {α : Type} {f : α → D} {ok : α → Prop} (ha : Arg P t f ok) {H : Type} {enc : TypeId × Value → H} {w : World} {b : Nat} {v : Value} {d : DataW H} {ps : List MemPlace}
  (ho : Value.okWide P w .any b t v) (h : DataW.Trod enc P w 0 (fun _ => true) true t v d ps) : ∃ a F, Rep w.heap (f a) F v.cells.toList ∧ (f a).fits v ∧ ok a := by
 obtain ⟨n, hn⟩ := h
 obtain ⟨a, F, r, o⟩ := ha.1 n _ enc w _ _ hn
 refine ⟨a, F, r, ?_, o⟩
 rcases ha.2 with ⟨h1, fs, hs⟩ | ⟨h1, h2⟩
 ·simp only [Value.okWide, hs] at ho
  obtain ⟨cs, rfl, _⟩ := ho
  have h1 := h1 a
  cases hd : f a with
  | ag ds => exact ⟨_, rfl⟩
  | _ => simp [hd, D.isAg] at h1
 ·have h1 := h1 a
  obtain ⟨c, hc, hc1⟩ := rep_one r h1
  have hv : v.oneCell' = true := by
   cases v with
   | agg cs =>
    exfalso
    cases hu : P.underlying t with
    | none => simp [Value.okWide, hu, Cell.okWide, Cell.ok] at ho
    | some u => cases u <;> simp_all [Value.okWide, Cell.okWide, Cell.ok]
   | _ => simp_all [Value.cells]
  cases hd : f a with
  | ag ds => simp [hd, D.isAg] at h1
  | _ => exact hv

theorem args_three {t t' t'' : TypeId} {α β γ : Type} {f : α → D} {ok : α → Prop} {f' : β → D} {ok' : β → Prop} {f'' : γ → D} {ok'' : γ → Prop} (ha : Arg P t f ok) (ha' : Arg P t' f' ok') (ha'' : Arg P t'' f'' ok'')
  {H : Type} {enc : TypeId × Value → H} {w : World} {b : Nat} {args : Array Value} {ds : List (DataW H)} {ps : List MemPlace}
  (ho : ∀ (j : Nat) u v, [t, t', t''][j]? = some u → args[j]? = some v → Value.okWide P w .any b u v) (h : DataW.TrodAll enc P w 0 (fun _ => true) true [t, t', t''] args.toList ds ps) :
  ∃ a a' a'', ArgsRep w.heap (fun _ => True) [f a, f' a', f'' a''] args.toList ∧ ok a ∧ ok' a' ∧ ok'' a'' := by
 obtain ⟨v, v', v'', d, d', d'', p, p', p'', rfl, rfl, rfl, h1, h2, h3⟩ := trodAll_three h
 obtain ⟨a, F, r, q, o⟩ := arg_of ha (ho 0 t v rfl rfl) h1
 obtain ⟨a', F', r', q', o'⟩ := arg_of ha' (ho 1 t' v' rfl rfl) h2
 obtain ⟨a'', F'', r'', q'', o''⟩ := arg_of ha'' (ho 2 t'' v'' rfl rfl) h3
 exact ⟨a, a', a'', by simp only [ArgsRep]; exact ⟨v, _, F, rfl, r, q, fun _ _ => trivial, v', _, F', rfl, r', q', fun _ _ => trivial, v'', _, F'', rfl, r'', q'', fun _ _ => trivial, rfl⟩, o, o', o''⟩

theorem trodAll_below {H : Type} {enc : TypeId × Value → H} (hl : laidOutB P = true) {W W' : World} (hb : Below W.heap.size W W') {sp : Nat → Bool} :
  ∀ {ts : List TypeId} {vs : List Value} {ds : List (DataW H)} {ps : List MemPlace}, (∀ t ∈ ts, P.readableRec t = true ∧ t < P.types.size) → (∀ x ∈ ps, x.block < W.heap.size) → (∀ x ∈ ps, sp x.block = true) →
   DataW.TrodAll enc P W 0 (fun _ => true) true ts vs ds ps → DataW.TrodAll enc P W' 0 sp true ts vs ds ps
 | [], _, _, _, _, _, _, h => by
  obtain ⟨rfl, rfl, rfl⟩ := trodAll_nil h
  rfl
 | t :: ts, _, _, _, ht, hlt, hs, h => by
  obtain ⟨v, vs, d, ds, p, q, rfl, rfl, rfl, h1, h2⟩ := trodAll_cons h
  exact ⟨p, q, WideElems.Trod_stays hl (ht t (by simp)).1 (ht t (by simp)).2 h1 (fun x hx => hb.same (hlt x (by simp [hx]))) (fun x hx => hs x (by simp [hx])),
   trodAll_below hl hb (fun t' h' => ht t' (by simp [h'])) (fun x hx => hlt x (by simp [hx])) (fun x hx => hs x (by simp [hx])) h2, rfl⟩

theorem post_true {f : Func} {s : ChangeSpec} {H : Type} {enc : TypeId × Value → H} {t : TypeId} {W W' : World} {args : Array Value} {ds gs : List (DataW H)} {before : List MemPlace}
  (hl : laidOutB P = true) (hvars : s.vars = []) (hres : f.resultTypes = #[t]) (ht : P.underlying t = some .bool) (hp : ∀ t ∈ f.params.toList, P.readableRec t = true ∧ t < P.types.size)
  (hs : (s.fn H (ds ++ gs)).results = [.lit (.bool true)] ∧ (s.fn H (ds ++ gs)).args = ds ∧ (s.fn H (ds ++ gs)).vars = [])
  (hW : DataW.Whole enc P f.params.toList s.vars false W args.toList ds gs before) (hb : Below W.heap.size W W') :
  s.post enc P f false true false false W args (.bool true) W' := by
 have hlt := hW.lt
 obtain ⟨p, q, h1, h2, rfl, h3, h4⟩ := id hW
 rw [hvars] at h2
 obtain ⟨rfl, rfl⟩ := trodVars_none h2
 simp only [List.append_nil] at hlt
 refine ⟨ds, [], p ++ [], [], p, [], hW, ?_, ?_, ?_, World.keptBut_mono (fun x hx => ⟨hx, .inr (.inl (by simpa using hx))⟩) (hb.frame (· ∈ p ++ [])), fun h => by cases h⟩
 ·rw [hs.1, hres]
  refine trodAll_mk1 ?_
  exact ⟨1, by simp [Value.cells, DataW.trod, ht]⟩
 ·rw [hs.2.1]
  exact trodAll_below hl hb hp hlt (fun x hx => by simpa using hlt x hx) h1
 ·rw [hs.2.2, hvars]
  rfl

theorem lifted_true {C : Checked} {os : Os} {f : FuncId} {fn : Func} {s : ChangeSpec} {H : Type} {enc : TypeId × Value → H} {t : TypeId}
  (own : ownKnob C.prog.godebug = none) (started : os.Started) (noInit : C.prog.inits.idxOf? f = none) (hfn : C.prog.funcs[f]? = some fn)
  (hl : laidOutB C.prog = true) (hvars : s.vars = []) (hres : fn.resultTypes = #[t]) (ht : C.prog.underlying t = some .bool) (hp : ∀ t ∈ fn.params.toList, C.prog.readableRec t = true ∧ t < C.prog.types.size)
  (hs : ∀ ds : List (DataW H), ds.length = fn.params.size → (s.fn H ds).results = [.lit (.bool true)] ∧ (s.fn H ds).args = ds ∧ (s.fn H ds).vars = [])
  (witness : ∃ (w : World) (tape : Tape) (i : Input), w.os = os ∧ (w.forCall tape i).Shaped C.prog ∧ i.vars = [] ∧ Input.okWide C.prog (w.forCall tape i) .any w.heap.size f i ∧
   s.pre6 enc C.prog fn [] false (w.forCall tape i).memory i.args ∧ ({} : Assume).holds C.prog (lone (Frame.enter C.prog f i.args .normal) [] (w.forCall tape i)))
  (h : ∀ (W : World) (b : Nat) (args : Array Value) (ds : List (DataW H)) (ps : List MemPlace), (∀ (j : Nat) u v, fn.params.toList[j]? = some u → args[j]? = some v → Value.okWide C.prog W .any b u v) →
   DataW.TrodAll enc C.prog W 0 (fun _ => true) true fn.params.toList args.toList ds ps → ∃ DS, AF C.prog f DS (.own (eB true)) ∧ ArgsRep W.heap (fun _ => True) DS args.toList) :
  ReturnsInHanded {} C os f .any (s.pre6 enc C.prog fn [] false) (s.post enc C.prog fn false true false false) := by
 refine returnsInHanded_of_change own started noInit hfn witness ?_
 intro W base args ds gs before hval hW _ _
 obtain ⟨p, q, hA, hV, _, _, _⟩ := id hW
 rw [hvars] at hV
 obtain ⟨rfl, rfl⟩ := trodVars_none hV
 obtain ⟨DS, hAF, hR⟩ := h W base args ds p (fun j u v h1 h2 => hval j u v (by simpa using h1) h2) hA
 have hlen : ds.length = fn.params.size := by
  have : ∀ {ts : List TypeId} {vs : List Value} {ds : List (DataW H)} {ps : List MemPlace}, DataW.TrodAll enc C.prog W 0 (fun _ => true) true ts vs ds ps → ds.length = ts.length := by
   intro ts
   induction ts with
   | nil => intro vs ds ps h; obtain ⟨rfl, rfl, rfl⟩ := trodAll_nil h; rfl
   | cons t ts ih =>
    intro vs ds ps h
    obtain ⟨v, vs, d, ds, p, q, rfl, rfl, rfl, h1, h2⟩ := trodAll_cons h
    simp [ih h2]
  simpa using this hA
 have := hAF.2 W args.toList (fun _ => True) hR
 rw [show args.toList.toArray = args from by simp] at this
 refine this.mono ?_
 rintro e W' ⟨v, F, G, rfl, hb, hr, _⟩
 simp only [RetRep, Rep, eB] at hr
 obtain ⟨_, ⟨_, hc, _⟩, hf⟩ := hr
 have hv : v = .bool true := by
  cases v <;> simp_all [Value.cells, D.fits, Value.oneCell']
 subst hv
 exact ⟨_, rfl, post_true hl hvars hres ht hp (by simpa using hs ds hlen) hW hb⟩

end
end Go.Ax
attribute [go_sem] decide_true decide_false and_self true_and and_true false_and and_false not_true_eq_false not_false_eq_true false_implies true_implies implies_true ge_iff_le Bool.false_eq_true List.cons_append List.nil_append
namespace Go.Ax
abbrev D.ze : D := .ag [.sc (.int .i64 0), .sc (.int .i64 0), .ls (some true) 3 []]
abbrev D.zp : D := .ag [.sc (.int .i64 0), .sc (.int .i64 0), .sc (.int .i64 0), .sc (.int .i64 0), .ls (some true) 3 [], .ls (some true) 6 []]
abbrev X.cf : X := .c (.sc (.bool false))
abbrev X.ct : X := .c (.sc (.bool true))
abbrev X.ci (n : Int) : X := .c (.sc (.int .i64 n))
abbrev RO.m (d s : Nat) : RO := ⟨none, .mv d (.t s)⟩
abbrev RO.f (d o s : Nat) : RO := ⟨none, .fa d o (.t s)⟩
abbrev RO.l (d z s : Nat) : RO := ⟨none, .ld d false z (.t s)⟩
abbrev RO.L (d z s : Nat) : RO := ⟨none, .ld d true z (.t s)⟩
abbrev RO.q (d s : Nat) (n : Int) : RO := ⟨none, .bin d .eql (.t s) (.ci n)⟩
abbrev RO.k (d c a : Nat) : RO := ⟨none, .pick d (.t c) (.t a) .cf⟩
abbrev RO.s (z a x : Nat) : RO := ⟨none, .st z (.t a) (.t x)⟩
abbrev RO.n (d s : Nat) : RO := ⟨none, .nck d (.t s)⟩
abbrev RO.b (d z s : Nat) : RO := ⟨none, .box d z (.t s)⟩
abbrev RO.i (d z s : Nat) (n : Int) : RO := ⟨none, .ia d z (.t s) (.ci n)⟩
abbrev RO.o (o : ROp) : RO := ⟨none, o⟩
abbrev RO.w (n : Nat) (o : ROp) : RO := ⟨some (n, true), o⟩
abbrev RO.u (n : Nat) (o : ROp) : RO := ⟨some (n, false), o⟩
abbrev RC.r (l : List RO) : RC := .reg false l
abbrev RO.c (d f : Nat) (l : List X) : RO := ⟨none, .call (some d) f l⟩
abbrev RO.v (d : Nat) (x : X) : RO := ⟨none, .mv d x⟩
abbrev RO.wm (n d s : Nat) : RO := ⟨some (n, true), .mv d (.t s)⟩
attribute [go_sem] D.ze D.zp X.cf X.ct X.ci RO.m RO.f RO.l RO.L RO.q RO.k RO.s RO.n RO.b RO.i RO.o RO.w RO.u RC.r RO.c RO.v RO.wm
end Go.Ax
