/- THE ENGINE, PART 8: a generator of conditions over the register code, and its soundness. No condition. -/
import Derived.Test.YtjnghfepojipiaaEnG
import Derived.KernelRfl
import Derived.ProofKit
set_option linter.unusedSimpArgs false
set_option linter.unusedVariables false
set_option linter.unnecessarySimpa false
set_option linter.unusedSectionVars false
namespace Go.Ax

variable {P : Program} {wv : Wv} {n0 : Nat} {S0 M0 : Nat → Prop} {w0 : World}

def argEnv : Nat → List D → List (Nat × AV)
 | _, [] => []
 | i, d :: ds => (i, .im none d) :: argEnv (i + 1) ds
def st0 (n : Nat) (ds : List D) : St := ⟨n, argEnv 0 ds, []⟩

mutual

def D.bd : D → Prop
 | .ag ds => D.bdL ds
 | .ls _ sz ds => ds.length ≤ maxEl ∧ (∀ d ∈ ds, d.size = sz) ∧ D.bdL ds
 | .pt d _ => d.bd
 | .lc _ _ d => d.bd
 | _ => True
def D.bdL : List D → Prop
 | [] => True
 | d :: ds => d.bd ∧ D.bdL ds
end

mutual
theorem Rep.bd {h : Heap} : ∀ {d F cs}, Rep h d F cs → d.bd
 | .sc _, _, _, _ => by simp [D.bd]
 | .jk, _, _, _ => by simp [D.bd]
 | .fn _ _, _, _, _ => by simp [D.bd]
 | .ag ds, _, _, hr => by simp only [Rep] at hr; simp only [D.bd]; exact RepL.bd hr.2
 | .ls _ _ ds, _, _, hr => by
  simp only [Rep] at hr
  simp only [D.bd]
  rcases hr with ⟨_, _, rfl, _⟩ | ⟨b, off, cap, c, e, fr, F', _, _, _, _, h1, _, _, h2, h3⟩
  ·simp [D.bdL]
  ·exact ⟨h1, h2, RepL.bd h3⟩
 | .pt _ _, _, _, hr => by
  simp only [Rep] at hr
  obtain ⟨b, off, c, e, fr, F', _, _, _, _, _, h⟩ := hr
  simp only [D.bd]
  exact Rep.bd h
 | .lc _ _ _, _, _, hr => by
  simp only [Rep] at hr
  simp only [D.bd]
  exact Rep.bd hr.2
theorem RepL.bd {h : Heap} : ∀ {ds F cs}, RepL h ds F cs → D.bdL ds
 | [], _, _, _ => by simp [D.bdL]
 | d :: ds, _, _, hr => by
  simp only [RepL] at hr
  obtain ⟨F1, F2, c1, c2, rfl, rfl, h1, h2⟩ := hr
  simp only [D.bdL]
  exact ⟨Rep.bd h1, RepL.bd h2⟩
end

theorem args_bd {h : Heap} {old : Nat → Prop} : ∀ {ds : List D} {vs : List Value}, ArgsRep h old ds vs → D.bdL ds
 | [], _, _ => by simp [D.bdL]
 | d :: ds, vs, hr => by
  simp only [ArgsRep] at hr
  obtain ⟨v, r, F, rfl, h1, _, _, h2⟩ := hr
  simp only [D.bdL]
  exact ⟨h1.bd, args_bd h2⟩

theorem args_len {h : Heap} {old : Nat → Prop} : ∀ {ds : List D} {vs : List Value}, ArgsRep h old ds vs → vs.length = ds.length
 | [], vs, hr => by simp only [ArgsRep] at hr; simp [hr]
 | d :: ds, vs, hr => by
  simp only [ArgsRep] at hr
  obtain ⟨v, r, F, rfl, _, _, _, h2⟩ := hr
  simp [args_len h2]

theorem args_env {h : Heap} {old : Nat → Prop} {us : List (Nat × U)} {g : Gh} (hg : ∀ b, b < h.size → old b → g.Sh b) : ∀ {ds : List D} {vs : List Value} (i : Nat), ArgsRep h old ds vs → ∀ t,
  (∀ d, lk (argEnv i ds) t = d → d = .any ∨ ∃ v, vs[t - i]? = some v ∧ i ≤ t ∧ VRep h us g d v)
 | [], _, i, _, t => by intro d hd; simp [argEnv, lk] at hd; exact .inl hd.symm
 | d :: ds, vs, i, hr, t => by
  simp only [ArgsRep] at hr
  obtain ⟨v, r, F, rfl, h1, h2, h3, h4⟩ := hr
  intro e he
  simp only [argEnv, lk] at he
  split at he
  ·next hi =>
   subst hi; subst he
   exact .inr ⟨v, by simp, Nat.le_refl _, by simp only [VRep]; exact ⟨F, h1, h2, fun b hb => .inl (hg b (h1.lt b hb) (h3 b hb))⟩⟩
  ·next hi =>
   rcases args_env hg (i + 1) h4 t e he with h | ⟨v', hv, hle, hr⟩
   ·exact .inl h
   ·refine .inr ⟨v', ?_, by omega, hr⟩
    rw [show t - i = (t - (i + 1)) + 1 by omega]
    simpa using hv

theorem sat_start {w : World} {old : Nat → Prop} {ds : List D} {vs : List Value} {n : Nat} (ha : ArgsRep w.heap old ds vs) (hn : ds.length ≤ n) :
  Sat w.heap.size old (fun _ => False) w (st0 n ds) { tmps := vs.toArray ++ Array.replicate (n - vs.toArray.size) undef, defers := [] } w := by
 have hl := args_len ha
 refine ⟨fun _ _ h => h.elim, rfl, by simp [st0]; omega, rfl, rfl, rfl, rfl, Nat.le_refl _, fun _ _ _ => rfl, ?_⟩
 let g : Gh := ⟨fun _ => none, fun _ => [], fun _ => undef, fun _ => 0, fun b => b < w.heap.size ∧ old b⟩
 refine ⟨g, ⟨by simp [st0], by simp [st0, fp], by simp [st0, fp], by simp [st0, fp], fun _ _ => rfl, fun b hb => ⟨hb.1, fun _ => hb.2, by simp [st0, fp]⟩, by simp [st0], by simp [st0, fp], by intro k v _ h; simp [st0] at h⟩, fun t => ?_⟩
 rcases args_env (us := []) (g := g) (fun b h1 h2 => ⟨h1, h2⟩) 0 ha t _ rfl with h | ⟨v, hv, _, hr⟩
 ·simp only [st0]
  rw [h]
  simp [VRep]
 ·have hlt : t < vs.length := (List.getElem?_eq_some_iff.1 hv).1
  have e : (vs.toArray ++ Array.replicate (n - vs.toArray.size) undef).getD t undef = v := by
   rw [Array.getD_eq_getD_getElem?, Array.getElem?_append_left (by simpa using hlt)]
   simp at hv
   simp [hv]
  rw [e]
  exact hr

inductive RV where
 | t (n : Nat)
 | c (n sz : Nat) (agg : Bool)

def resRV (P : Program) : ResultVar → Option RV
 | .tmp t => some (.t t)
 | .cell a t => do let s ← szOf P t; let g ← aggOf P t; guard ((g || s == 1) = true); pure (.c a s g)

def rvK (st : St) (x : RV) (k : AV → Prop) : Prop :=
 match x with
 | .t n => k (st.get n)
 | .c n sz agg => ldK (st.get n) st.unit agg sz (fun av _ => k av)
def rvsK (st : St) : List RV → (List AV → Prop) → Prop
 | [], k => k []
 | x :: xs, k => rvK st x fun av => rvsK st xs fun avs => k (av :: avs)

def retO (d : D) (k : St → Prop) (own : Bool) (d' : D) (st' : St) : Prop := own = true ∧ d'.Le d ∧ k st'
def retS (d : D) (k : St → Prop) (_own : Bool) (d' : D) (st' : St) : Prop := d'.Le d ∧ k st'

def takeRt (st : St) (v : AV) (k : KT) : Prop :=
 match v with
 | .vb i len => takeN 12 st (.vb i len) k
 | v => takeA st v k
theorem takeRt_ok : TakeOk (n0 := n0) (S0 := S0) (M0 := M0) takeRt := by
 intro _ _ _ _ h0 av _ _ _ _ T hr hk
 cases av with
 | vb i len => exact takeN_ok 12 h0 T hr hk
 | _ => exact takeA_ok h0 T hr hk

def sh1 (un : Nat → Option U) : AV → Option D
 | .im none d => some d
 | .im (some _) d => if d.noPtr = true then some d else none
 | .vb id len => match un id with | some (.bx sz items) => if len = items.length then (match imDs sz items with | some ds => some (.ls (some false) sz ds) | none => none) else none | _ => none
 | _ => none
def AV.isVb : AV → Bool
 | .vb _ _ => true
 | _ => false
def shD (q : Option D) (k : D → Prop) : Prop := match q with | some d => k d | none => False
def shStep (st : St) (a : AV) (k : D → St → Prop) : Prop :=
 match a with
 | .vb i len => shD (sh1 st.unit (.vb i len)) fun d => k d (st.del i)
 | a => shD (sh1 st.unit a) fun d => k d st
def shSeq (st : St) : List AV → (List D → St → Prop) → Prop
 | [], k => k [] st
 | a :: r, k => shStep st a fun d st1 => shSeq st1 r fun ds st2 => k (d :: ds) st2
def shEnd (d : D) (k : St → Prop) (ds : List D) (st : St) : Prop := shD (sgD ds) fun d' => d'.Le d ∧ k st
def retSh (st : St) (av : AV) (d : D) (k : St → Prop) : Prop :=
 match av with
 | .sg vs => if vs.any AV.isVb = true then shSeq st vs (shEnd d k) else takeA st (.sg vs) (retS d k)
 | .vb i len => shStep st (.vb i len) fun d' st' => d'.Le d ∧ k st'
 | av => takeA st av (retS d k)
def ret1 (st : St) (av : AV) (r : Ret) (k : St → Prop) : Prop :=
 match r with
 | .own d => takeRt st av (retO d k)
 | .sh d => retSh st av d k
 | _ => False
def retL : List AV → List Ret → St → Prop
 | [], [], _ => True
 | av :: avs, r :: rs, st => ret1 st av r (retL avs rs)
 | _, _, _ => False
def retU (u : Option U) (sz len : Nat) (es : List D) : Prop := match u with | some (.ar true nn sz' es') => nn = some false ∧ sz' = sz ∧ es' = es ∧ len = es.length | _ => False
def retV (un : Nat → Option U) (sz : Nat) (es : List D) : List AV → Prop
 | [.sm id 0 len] => retU (un id) sz len es
 | _ => False
def retPU (u : Option U) (d : D) : Prop := match u with | some (.ar false _ _ es) => es = [d] | _ => False
def retP (un : Nat → Option U) (d : D) : List AV → Prop
 | [.pw id 0 0] => retPU (un id) d
 | _ => False
def retB (xs : List RV) (st : St) (r : Ret) (avs : List AV) : Prop :=
 match r with
 | .tup rs => xs.length ≠ 1 ∧ retL avs rs st
 | .arr sz es => xs.length = 1 ∧ retV st.unit sz es avs
 | .bxs d => xs.length = 1 ∧ retP st.unit d avs
 | r => xs.length = 1 ∧ retL avs [r] st
def retK (xs : List RV) (r : Ret) (st : St) : Prop := rvsK st xs (retB xs st r)

def retE (xs : List RV) (r : Ret) (e : Exit) (st : St) : Prop :=
 match e with
 | .normal => retK xs r st
 | .ret => retK xs r st
 | _ => False

theorem D.Le.refl (d : D) : d.Le d := ⟨fun _ _ _ h => h, fun _ h => h⟩

theorem sh1_im {h : Heap} {st1 st : St} {tm : Nat → Value} {g0 g : Gh} (T : Took h n0 S0 M0 st1 st tm g0 g) {av : AV} (hne : ∀ i l, av ≠ .vb i l) {v : Value} {d : D} (hr : VRep h st1.us g0 av v) (hd : sh1 st.unit av = some d) :
  ∃ F, Rep h d F v.cells.toList ∧ d.fits v ∧ ∀ b ∈ F, g.Sh b := by
 unfold sh1 at hd
 split at hd
 ·next d' =>
  obtain rfl := Option.some.inj hd
  simp only [VRep] at hr
  obtain ⟨F, r1, r2, r3⟩ := hr
  exact ⟨F, r1, r2, fun b hb => T.sh b (sh_of_none (r3 b hb))⟩
 ·next i d' =>
  split at hd
  ·next hp =>
   obtain rfl := Option.some.inj hd
   simp only [VRep] at hr
   obtain ⟨F, r1, r2, r3⟩ := hr
   have := noPtr_F hp r1
   subst this
   exact ⟨[], r1, r2, by simp⟩
  ·cases hd
 ·next id len => exact absurd rfl (hne id len)
 ·cases hd
theorem sh1_vb {h : Heap} {st1 st : St} {tm : Nat → Value} {g0 g : Gh} (T : Took h n0 S0 M0 st1 st tm g0 g) {id len : Nat} {v : Value} {d : D} (hr : VRep h st1.us g0 (.vb id len) v) (hd : sh1 st.unit (.vb id len) = some d) :
  ∃ F, Rep h d F v.cells.toList ∧ d.fits v ∧ ShOk g (g.drop id) st.us (st.del id).us F := by
 simp only [sh1] at hd
 split at hd
 ·next sz items hun =>
  split at hd
  ·next hlen =>
   split at hd
   ·next ds hds =>
    obtain rfl := Option.some.inj hd
    simp only [VRep] at hr
    obtain ⟨sz', items', b, r1, r2, r3, rfl⟩ := hr
    have hm := mem_of_lu hun
    obtain ⟨gb, _, _⟩ := T.gh _ _ hm
    have ho := T.us.each _ hm
    simp only [UOk] at ho
    obtain ⟨hmax, b', c, e, vs, rest, k1, k2, k3, k4, k5, k6⟩ := ho
    rw [gb, r3] at k1
    obtain rfl := Option.some.inj k1
    obtain ⟨F, p1, p2, p3, p4⟩ := imDs_sh k4 hds
    have hl := p1.length
    rw [D.sizeL_const p2] at hl
    have hbφ : b ∈ g.φ id := by rw [k3]; simp
    refine ⟨b :: F, ?_, rfl, fun x hx => ?_⟩
    ·unfold Rep
     have hcs : ds.length * sz ≤ c.size := by
      have : c.toList.length = c.size := by simp
      rw [k6, lP] at this
      omega
     refine .inr ⟨b, 0, len, c, e, (0, 0), F, by simp [Value.cells, p3, hlen], rfl, by simp, by omega, by omega, k2, by rw [p3, ← hlen] at hcs; omega, p2, ?_⟩
     rw [List.drop_zero, k6, List.take_left' hl]
     exact p1
    ·rcases List.mem_cons.1 hx with rfl | hx
     ·exact .inr ⟨mem_fp.2 ⟨_, hm, hbφ⟩, drop_fp T.us hm x hbφ⟩
     ·exact .inl (p4 x hx)
   ·cases hd
  ·cases hd
 ·cases hd
theorem shStep_ok {h : Heap} {st1 st : St} {tm : Nat → Value} {g0 g : Gh} (T : Took h n0 S0 M0 st1 st tm g0 g) {av : AV} {v : Value} {k : D → St → Prop} (hr : VRep h st1.us g0 av v) (hk : shStep st av k) :
  ∃ d st' g' F, k d st' ∧ Took h n0 S0 M0 st1 st' tm g0 g' ∧ Rep h d F v.cells.toList ∧ d.fits v ∧ ShOk g g' st.us st'.us F ∧ (∀ b, g'.Sh b ↔ g.Sh b) ∧ ∀ b, b ∈ fp g' st'.us → b ∈ fp g st.us := by
 unfold shStep at hk
 split at hk
 ·next i len =>
  unfold shD at hk
  split at hk
  ·next d hd =>
   obtain ⟨F, r1, r2, r3⟩ := sh1_vb T hr hd
   exact ⟨d, st.del i, g.drop i, F, hk, T.del i, r1, r2, r3, fun _ => Iff.rfl, fun b hb => (fp_killU (g := g) (g' := g.drop i) (fun j hj => by simp [Gh.drop, hj])).subset hb⟩
  ·exact hk.elim
 ·next hne =>
  unfold shD at hk
  split at hk
  ·next d hd =>
   obtain ⟨F, r1, r2, r3⟩ := sh1_im T (fun i l e => hne i l e) hr hd
   exact ⟨d, st, g, F, hk, T, r1, r2, fun b hb => .inl (r3 b hb), fun _ => Iff.rfl, fun _ hb => hb⟩
  ·exact hk.elim
theorem shSeq_ok {h : Heap} {st1 : St} {tm : Nat → Value} {g0 : Gh} : ∀ {avs : List AV} {vs : List Value} {st : St} {g : Gh} {k : List D → St → Prop}, Took h n0 S0 M0 st1 st tm g0 g → VRepL h st1.us g0 avs vs → shSeq st avs k →
  ∃ ds st' g' F, k ds st' ∧ Took h n0 S0 M0 st1 st' tm g0 g' ∧ RepL h ds F (vs.map (·.cells.toList)).flatten ∧ ShOk g g' st.us st'.us F ∧ (∀ b, g'.Sh b ↔ g.Sh b) ∧ ∀ b, b ∈ fp g' st'.us → b ∈ fp g st.us
 | [], vs, st, g, k, T, hr, hk => by
  simp only [VRepL] at hr
  subst hr
  exact ⟨[], st, g, [], hk, T, by simp [RepL], by simp [ShOk], fun _ => Iff.rfl, fun _ hb => hb⟩
 | av :: avs, vs, st, g, k, T, hr, hk => by
  simp only [VRepL] at hr
  obtain ⟨v, r, rfl, h1, h2⟩ := hr
  simp only [shSeq] at hk
  obtain ⟨d, sta, ga, F1, hk, Ta, r1, _, s1, q1, f1⟩ := shStep_ok T h1 hk
  obtain ⟨ds, stb, gb, F2, hk, Tb, r2, s2, q2, f2⟩ := shSeq_ok Ta h2 hk
  refine ⟨d :: ds, stb, gb, F1 ++ F2, hk, Tb, ?_, fun b hb => ?_, fun b => (q2 b).trans (q1 b), fun b hb => f1 b (f2 b hb)⟩
  ·simp only [lC, List.flatten_cons, RepL_cons]
   exact ⟨F1, F2, _, _, rfl, rfl, r1, r2⟩
  ·rcases List.mem_append.1 hb with hb | hb
   ·rcases s1 b hb with h | ⟨h, h'⟩
    ·exact .inl h
    ·exact .inr ⟨h, fun h3 => h' (f2 b h3)⟩
   ·rcases s2 b hb with h | ⟨h, h'⟩
    ·exact .inl ((q1 b).1 h)
    ·exact .inr ⟨f1 b h, h'⟩
theorem shSg_ok {h : Heap} {st1 st : St} {tm : Nat → Value} {g0 g : Gh} (T : Took h n0 S0 M0 st1 st tm g0 g) {vs : List AV} {v : Value} {d : D} {p : St → Prop} (hr : VRep h st1.us g0 (.sg vs) v) (hk : shSeq st vs (shEnd d p)) :
  ∃ st' g' F, p st' ∧ Took h n0 S0 M0 st1 st' tm g0 g' ∧ Rep h d F v.cells.toList ∧ d.fits v ∧ ShOk g g' st.us st'.us F ∧ (∀ b, g'.Sh b ↔ g.Sh b) ∧ ∀ b, b ∈ fp g' st'.us → b ∈ fp g st.us := by
 simp only [VRep] at hr
 obtain ⟨xs, h1, rfl⟩ := hr
 obtain ⟨ds, st', g', F, hk, T', r1, s1, q1, f1⟩ := shSeq_ok T h1 hk
 unfold shEnd shD at hk
 split at hk
 ·next d' hd =>
  unfold sgD at hd
  split at hd
  ·next hall =>
   obtain rfl := Option.some.inj hd
   have hrep : Rep h (.ag ds) F (Value.agg (xs.map (·.cells.toList)).flatten.toArray).cells.toList := by
    simp only [Rep]
    rw [List.all_eq_true] at hall
    refine ⟨fun d hd => ?_, by simpa [Value.cells] using r1⟩
    have := hall d hd
    simpa using this
   exact ⟨st', g', F, hk.2, T', hk.1.1 _ _ _ hrep, hk.1.2 _ (by simp [D.fits, Value.cells]), s1, q1, f1⟩
  ·cases hd
 ·exact hk.elim
theorem ret_list {h : Heap} {st1 : St} {tm : Nat → Value} {g0 : Gh} (h0 : USat h n0 S0 M0 st1.us g0) : ∀ {avs : List AV} {vs : List Value} {rs : List Ret} {st : St} {g : Gh}, Took h n0 S0 M0 st1 st tm g0 g → VRepL h st1.us g0 avs vs → retL avs rs st →
  ∃ F G, RetRepL h rs F G vs ∧ F.Nodup ∧ (∀ b ∈ F, ¬ g.Sh b ∧ b ∈ fp g st.us ∧ b ∉ G) ∧ ∀ b ∈ G, g.Sh b ∨ b ∈ fp g st.us
 | [], vs, rs, st, g, T, hr, hk => by
  simp only [VRepL] at hr
  subst hr
  cases rs with
  | nil => exact ⟨[], [], by simp [RetRepL], List.nodup_nil, by simp, by simp⟩
  | cons => simp [retL] at hk
 | av :: avs, vs, rs, st, g, T, hr, hk => by
  simp only [VRepL] at hr
  obtain ⟨v, vs', rfl, hv, hvs⟩ := hr
  cases rs with
  | nil => simp [retL] at hk
  | cons r rs =>
   simp only [retL] at hk
   unfold ret1 at hk
   split at hk
   ·next d =>
    obtain ⟨own, d', st', g', F1, ⟨rfl, hle, hk'⟩, T', r1, r2, ⟨o1, _⟩, hsh, hfp⟩ := takeRt_ok h0 T hv hk
    obtain ⟨on, o2⟩ := o1 rfl
    obtain ⟨F2, G2, p1, p2, p3, p4⟩ := ret_list h0 T' hvs hk'
    refine ⟨F1 ++ F2, G2, ?_, ?_, ?_, ?_⟩
    ·simp only [RetRepL]
     exact ⟨F1, F2, [], G2, v, vs', rfl, rfl, rfl, by simp only [RetRep]; exact ⟨trivial, hle.1 _ _ _ r1, hle.2 _ r2⟩, p1⟩
    ·refine List.nodup_append.2 ⟨on, p2, fun x hx y hy e => ?_⟩
     subst e
     exact (o2 x hx).2.2.1 (p3 x hy).2.1
    ·intro b hb
     rcases List.mem_append.1 hb with hb | hb
     ·obtain ⟨_, q1, q2, q3⟩ := o2 b hb
      refine ⟨fun hs => q1 ((hsh b).2 hs), q3, fun hg => ?_⟩
      rcases p4 b hg with h | h
      ·exact q1 h
      ·exact q2 h
     ·obtain ⟨q1, q2, q3⟩ := p3 b hb
      exact ⟨fun hs => q1 ((hsh b).2 hs), hfp b q2, q3⟩
    ·intro b hb
     rcases p4 b hb with h | h
     ·exact .inl ((hsh b).1 h)
     ·exact .inr (hfp b h)
   ·next d =>
    have byX : (∃ st' g' F, retL avs rs st' ∧ Took h n0 S0 M0 st1 st' tm g0 g' ∧ Rep h d F v.cells.toList ∧ d.fits v ∧ ShOk g g' st.us st'.us F ∧ (∀ b, g'.Sh b ↔ g.Sh b) ∧ ∀ b, b ∈ fp g' st'.us → b ∈ fp g st.us) → ∃ F G, RetRepL h (.sh d :: rs) F G (v :: vs') ∧ F.Nodup ∧ (∀ b ∈ F, ¬ g.Sh b ∧ b ∈ fp g st.us ∧ b ∉ G) ∧ ∀ b ∈ G, g.Sh b ∨ b ∈ fp g st.us := by
     rintro ⟨st', g', F1, hk', T', r1, r2, o1, hsh, hfp⟩
     obtain ⟨F2, G2, p1, p2, p3, p4⟩ := ret_list h0 T' hvs hk'
     refine ⟨F2, F1 ++ G2, ?_, p2, ?_, ?_⟩
     ·simp only [RetRepL]
      exact ⟨[], F2, F1, G2, v, vs', rfl, rfl, rfl, by simp only [RetRep]; exact ⟨trivial, r1, r2⟩, p1⟩
     ·intro b hb
      obtain ⟨q1, q2, q3⟩ := p3 b hb
      refine ⟨fun hs => q1 ((hsh b).2 hs), hfp b q2, fun hm => ?_⟩
      rcases List.mem_append.1 hm with hm | hm
      ·rcases o1 b hm with h | ⟨_, h⟩
       ·exact q1 ((hsh b).2 h)
       ·exact h q2
      ·exact q3 hm
     ·intro b hb
      rcases List.mem_append.1 hb with hb | hb
      ·rcases o1 b hb with h | ⟨h, _⟩
       ·exact .inl h
       ·exact .inr h
      ·rcases p4 b hb with h | h
       ·exact .inl ((hsh b).1 h)
       ·exact .inr (hfp b h)
    have byA : takeA st av (retS d (retL avs rs)) → ∃ F G, RetRepL h (.sh d :: rs) F G (v :: vs') ∧ F.Nodup ∧ (∀ b ∈ F, ¬ g.Sh b ∧ b ∈ fp g st.us ∧ b ∉ G) ∧ ∀ b ∈ G, g.Sh b ∨ b ∈ fp g st.us := by
     intro hk
     obtain ⟨own, d', st', g', F1, ⟨hle, hk'⟩, T', r1, r2, ⟨o1, o2⟩, hsh, hfp⟩ := takeA_ok h0 T hv hk
     obtain ⟨F2, G2, p1, p2, p3, p4⟩ := ret_list h0 T' hvs hk'
     refine ⟨F2, F1 ++ G2, ?_, p2, ?_, ?_⟩
     ·simp only [RetRepL]
      exact ⟨[], F2, F1, G2, v, vs', rfl, rfl, rfl, by simp only [RetRep]; exact ⟨trivial, hle.1 _ _ _ r1, hle.2 _ r2⟩, p1⟩
     ·intro b hb
      obtain ⟨q1, q2, q3⟩ := p3 b hb
      refine ⟨fun hs => q1 ((hsh b).2 hs), hfp b q2, fun hm => ?_⟩
      rcases List.mem_append.1 hm with hm | hm
      ·cases own with
       | true => exact ((o1 rfl).2 b hm).2.2.1 q2
       | false => exact q1 (o2 rfl b hm)
      ·exact q3 hm
     ·intro b hb
      rcases List.mem_append.1 hb with hb | hb
      ·cases own with
       | true => exact .inr ((o1 rfl).2 b hb).2.2.2
       | false => exact .inl ((hsh b).1 (o2 rfl b hb))
      ·rcases p4 b hb with h | h
       ·exact .inl ((hsh b).1 h)
       ·exact .inr (hfp b h)
    unfold retSh at hk
    split at hk
    ·split at hk
     ·exact byX (shSg_ok T hv hk)
     ·exact byA hk
    ·next i len =>
     obtain ⟨d', st', g', F, hk, T', r1, r2, o1, hsh, hfp⟩ := shStep_ok T hv hk
     exact byX ⟨st', g', F, hk.2, T', hk.1.1 _ _ _ r1, hk.1.2 _ r2, o1, hsh, hfp⟩
    ·exact byA hk
   ·exact hk.elim

def rvVal (tmps : Array Value) : ResultVar → Sem Value
 | .tmp t => pure (tmps.getD t undef)
 | .cell a t => do loadVar t (← asAddr (tmps.getD a undef))

theorem loadAt_eq {t : TypeId} {v r : Value} {w : World} (h : (Instr.loadAt t v).run P w = .ok r w) (hp : ∃ a, v = .pointer (some a)) : ((asAddr v >>= fun a => loadVar t a)).run P w = .ok r w := by
 obtain ⟨a, rfl⟩ := hp
 simpa [Instr.loadAt, Instr.sureAddr, asAddr] using h

theorem ldK_ptr {us : List (Nat × U)} {h : Heap} {g : Gh} {av : AV} {v : Value} {un : Nat → Option U} {agg : Bool} {sz : Nat} {k : KQ} (hr : VRep h us g av v) (hq : ldK av un agg sz k) : ∃ a, v = .pointer (some a) := by
 unfold ldK at hq
 split at hq
 ·simp only [VRep, Rep] at hr
  obtain ⟨F, ⟨b, off, c, e, fr, F', r1, _⟩, f1, _⟩ := hr
  rw [cells_one (by simpa [D.fits] using f1)] at r1
  exact ⟨_, by simpa using r1⟩
 ·simp only [VRep, Rep] at hr
  obtain ⟨F, ⟨_, b, off, c, e, fr, F', r1, _⟩, f1, _⟩ := hr
  rw [cells_one (by simpa [D.fits] using f1)] at r1
  exact ⟨_, by simpa using r1⟩
 ·simp only [VRep] at hr
  obtain ⟨_, _, _, _, _, _, _, _, _, hv⟩ := hr
  exact ⟨_, hv⟩
 ·simp only [VRep] at hr
  obtain ⟨_, _, _, _, _, _, _, _, _, _, _, _, _, _, _, _, _, hv⟩ := hr
  exact ⟨_, hv⟩
 ·simp only [VRep] at hr
  obtain ⟨_, _, _, _, _, hv⟩ := hr
  exact ⟨_, hv⟩
 ·exact hq.elim

theorem rvs_run {st : St} {w : World} {g : Gh} {tmps : Array Value} (hu : USat w.heap n0 S0 M0 st.us g) (hv : ∀ t, VRep w.heap st.us g (lk st.env t) (tmps.getD t undef)) : ∀ {l : List ResultVar} {xs : List RV} {k : List AV → Prop},
  l.mapM (resRV P) = some xs → rvsK st xs k → ∃ avs vs, (l.mapM (rvVal tmps)).run P w = .ok vs w ∧ VRepL w.heap st.us g avs vs ∧ k avs ∧ vs.length = l.length
 | [], xs, k, hl, hk => by
  simp at hl
  subst hl
  exact ⟨[], [], by simp, by simp [VRepL], hk, rfl⟩
 | x :: l, xs, k, hl, hk => by
  simp only [List.mapM_cons, oD, oB, oP, oS] at hl
  obtain ⟨x', hx, xs', hxs, rfl⟩ := hl
  simp only [rvsK] at hk
  have one : ∀ {k : AV → Prop}, rvK st x' k → ∃ av v, (rvVal tmps x).run P w = .ok v w ∧ VRep w.heap st.us g av v ∧ k av := by
   intro k hk
   cases x with
   | tmp t =>
    simp only [resRV, oS] at hx
    subst hx
    exact ⟨_, _, by simp [rvVal], hv t, hk⟩
   | cell a t =>
    simp only [resRV, oD, oB, oP, oS, guard_some] at hx
    obtain ⟨s, hs, agg, hagg, _, h1, rfl⟩ := hx
    simp only [rvK] at hk
    obtain ⟨av, v, h2, h3, h4⟩ := ld_core (P := P) (w := w) hu hs hagg (by intro e; simpa [e] using h1) (hv a) hk
    exact ⟨av, v, loadAt_eq h2 (ldK_ptr (hv a) hk), h3, h4⟩
  obtain ⟨av, v, h1, h2, h3⟩ := one hk
  obtain ⟨avs, vs, h4, h5, h6, h7⟩ := rvs_run hu hv hxs h3
  refine ⟨av :: avs, v :: vs, ?_, ?_, h6, by simp [h7]⟩
  ·rw [List.mapM_cons]
   simp [Sem.run_bind, h1, h4, Result.andThen]
  ·simp only [VRepL]
   exact ⟨v, vs, rfl, h2, h5⟩

theorem results_eq {fn : Func} {tmps : Array Value} {w : World} {vs : List Value} (h : (fn.results.toList.mapM (rvVal tmps)).run P w = .ok vs w) :
  (results fn tmps).run P w = .ok (if h : vs.length = 1 then vs[0] else .tuple vs.toArray) w := by
 have e : results fn tmps = (do let vs ← fn.results.mapM (rvVal tmps); pure (if h : vs.size = 1 then vs[0] else .tuple vs)) := by
  unfold results
  congr 1
 rw [e, Array.mapM_eq_mapM_toList]
 simp [Sem.run_bind, h, Result.andThen]

theorem lu_mem' : ∀ {us : List (Nat × U)} {k : Nat} {u : U}, lu us k = some u → (k, u) ∈ us
 | [], _, _, h => by cases h
 | (i, v) :: r, k, u, h => by
  simp only [lu] at h
  split at h
  ·next e => subst e; cases h; exact List.mem_cons_self
  ·exact List.mem_cons_of_mem _ (lu_mem' h)

theorem af_core {f : Nat} {fn : Func} {c : Code} {xs : List RV} {ds : List D} {r : Ret} (hf : P.funcs[f]? = some fn) (hb : fn.body = some c) (hname : (fn.name == "runtime.NumGoroutine") = false)
  (hxs : fn.results.toList.mapM (resRV P) = some xs) (hn : ds.length ≤ fn.ntmps)
  (hq : D.bdL ds → ∀ (n0 : Nat) (S0 M0 : Nat → Prop) (w0 : World) (a : Act) (w : World), Sat n0 S0 M0 w0 (st0 fn.ntmps ds) a w → c.wp P (fun e a' w' => ∃ st, retE xs r e st ∧ Sat n0 S0 M0 w0 st a' w') a w) : AF P f ds r := by
 refine ⟨⟨fn, hf, by simp [hb], hname⟩, fun w vs old ha => ?_⟩
 refine calls_of_wp hf hb ?_
 have hs := sat_start ha hn
 refine wp_mono (hq (args_bd ha) _ _ _ _ _ _ hs) ?_
 rintro e a' w' ⟨st, hk, hs'⟩
 have hxl : xs.length = fn.results.toList.length := (mapM_len hxs)
 have key : retK xs r st → a'.defers = [] ∧ ∃ v, (results fn a'.tmps).run P w' = .ok v w' ∧
   (∃ v' F G, Ending.returned v = .returned v' ∧ Go.RowKit.Below w.heap.size w w' ∧ RetRep w'.heap r F G v' ∧ F.Nodup ∧ (∀ b ∈ F, w.heap.size ≤ b ∧ b ∉ G ∧ Unf w'.heap b) ∧ ∀ b ∈ G, (w.heap.size ≤ b ∧ b < w'.heap.size) ∨ old b) := by
  intro hk
  refine ⟨hs'.dfr, ?_⟩
  obtain ⟨g, hu, hv⟩ := hs'.gh
  obtain ⟨avs, vs', h1, h2, h3, h4⟩ := rvs_run (P := P) hu hv hxs hk
  refine ⟨_, results_eq h1, ?_⟩
  have hB : Go.RowKit.Below w.heap.size w w' := ⟨hs'.os, hs'.tape, hs'.output, hs'.size, fun k hk => hs'.old k hk (by simp)⟩
  have fin : ∀ {rs : List Ret}, retL avs rs st → ∃ F G, RetRepL w'.heap rs F G vs' ∧ F.Nodup ∧ (∀ b ∈ F, w.heap.size ≤ b ∧ b ∉ G ∧ Unf w'.heap b) ∧ ∀ b ∈ G, (w.heap.size ≤ b ∧ b < w'.heap.size) ∨ old b := by
   intro rs hL
   obtain ⟨F, G, q1, q2, q3, q4⟩ := ret_list hu (Took.refl hu hv) h2 hL
   have ge : ∀ b, b ∈ fp g st.us → w.heap.size ≤ b := fun b hb => Nat.le_of_not_lt fun hlt => hu.low b hb hlt
   refine ⟨F, G, q1, q2, fun b hb => ⟨ge b (q3 b hb).2.1, (q3 b hb).2.2, hu.fz b (q3 b hb).2.1⟩, fun b hb => ?_⟩
   rcases q4 b hb with h | h
   ·obtain ⟨p1, p2, _⟩ := hu.sh b h
    by_cases hlt : b < w.heap.size
    ·exact .inr (p2 hlt)
    ·exact .inl ⟨by omega, p1⟩
   ·exact .inl ⟨ge b h, hu.lt b h⟩
  have single : ∀ {r : Ret}, retL avs [r] st → xs.length = 1 → ∃ v' F G, Ending.returned (if h : vs'.length = 1 then vs'[0] else .tuple vs'.toArray) = .returned v' ∧ Go.RowKit.Below w.heap.size w w' ∧ RetRep w'.heap r F G v' ∧ F.Nodup ∧ (∀ b ∈ F, w.heap.size ≤ b ∧ b ∉ G ∧ Unf w'.heap b) ∧ ∀ b ∈ G, (w.heap.size ≤ b ∧ b < w'.heap.size) ∨ old b := by
   intro r hL hx1
   obtain ⟨F, G, q1, q2, q3, q4⟩ := fin hL
   simp only [RetRepL] at q1
   obtain ⟨F1, F2, G1, G2, v, ws, rfl, rfl, rfl, hr, hF2, hG2, hws⟩ := q1
   subst hF2; subst hG2; subst hws
   exact ⟨v, F1, G1, by simp, hB, hr, by simpa using q2, by simpa using q3, by simpa using q4⟩
  unfold retB at h3
  split at h3
  ·next rs =>
   obtain ⟨F, G, q1, q2, q3, q4⟩ := fin h3.2
   refine ⟨_, F, G, by rw [dif_neg (by rw [h4, ← hxl]; exact h3.1)], hB, ?_, q2, q3, q4⟩
   simp only [RetRep]
   exact ⟨_, rfl, by simpa using q1⟩
  ·next sz es =>
   obtain ⟨hx1, hV⟩ := h3
   unfold retV at hV
   split at hV
   ·next id len =>
    unfold retU at hV
    split at hV
    ·next nn sz' es' hun =>
     obtain ⟨rfl, rfl, rfl, rfl⟩ := hV
     have hm := lu_mem' hun
     simp only [VRepL] at h2
     obtain ⟨v, r, rfl, hv2, rfl⟩ := h2
     obtain ⟨q1, q2, q3⟩ := hu.each _ hm
     rcases q3 with ⟨_, _, _, hbad⟩ | ⟨b, c, e, G, cs, rest, p1, p2, p3, p4, p5, p6, p7, p8⟩
     ·exact absurd rfl hbad
     simp only [if_true] at p8
     simp only [VRep] at hv2
     obtain ⟨ow, nn, sz2, es2, hm2, hle, hv3⟩ := hv2
     have hsame := hu.uniq hm hm2
     cases hsame
     have hin : ∀ x ∈ b :: G, x ∈ fp g st.us := fun x hx => mem_fp.2 ⟨_, hm, by rw [p8]; exact hx⟩
     rcases hv3 with ⟨b', hb', rfl⟩ | ⟨hbad, _⟩
     ·rw [p1] at hb'; cases hb'
      refine ⟨_, b :: G, [], by simp; rfl, hB, ?_, ?_, fun x hx => ⟨Nat.le_of_not_lt fun hlt => hu.low x (hin x hx) hlt, by simp, hu.fz x (hin x hx)⟩, by simp⟩
      ·simp only [RetRep]
       exact ⟨trivial, q1, q2, b, c, e, G, cs, rest, g.cap id, by simp, rfl, p2, p3, p4, p5, p6⟩
      ·have hq := hu.nodup
       have : (g.φ id).Nodup := phi_nodup hu hm
       rw [p8] at this
       exact this
     ·rw [p1] at hbad; cases hbad
    ·exact hV.elim
   ·exact hV.elim
  ·next d _ =>
   obtain ⟨hx1, hV⟩ := h3
   unfold retP at hV
   split at hV
   ·next id =>
    unfold retPU at hV
    split at hV
    ·next nn sz' es' hun =>
     subst hV
     have hm := lu_mem' hun
     simp only [VRepL] at h2
     obtain ⟨v, r, rfl, hv2, rfl⟩ := h2
     obtain ⟨q1, q2, q3⟩ := hu.each _ hm
     rcases q3 with ⟨_, hbad, _⟩ | ⟨b, c, e, G, cs, rest, p1, p2, p3, p4, p5, p6, p7, p8⟩
     ·cases hbad
     simp only [bFt, if_false] at p8
     simp only [VRep] at hv2
     obtain ⟨ow, nn, sz2, es2, b', hm2, hl1, hl2, hb', hv3⟩ := hv2
     have hsame := hu.uniq hm hm2
     cases hsame
     rw [p1] at hb'; cases hb'
     have hd : d.size = sz' := q2 d (by simp)
     simp only [RepL] at p6
     obtain ⟨F1, F2, x1, x2, rfl, rfl, p6, rfl, rfl⟩ := p6
     have hbin : b ∈ fp g st.us := mem_fp.2 ⟨_, hm, by rw [p8.1]; simp⟩
     refine ⟨_, [b], F1, by simp; rfl, hB, ?_, by simp, fun x hx => ?_, fun x hx => ?_⟩
     ·simp only [RetRep]
      exact ⟨by omega, b, c, e, x1, rest, g.cap id, by rw [hv3]; simp, rfl, p2, by simpa using p3, by rw [hd]; exact p4, by simpa using p5, p6⟩
     ·rw [List.mem_singleton.1 hx]
      exact ⟨Nat.le_of_not_lt fun hlt => hu.low b hbin hlt, fun hx => (hu.sh b (p8.2 b (by simp [hx]))).2.2 hbin, hu.fz b hbin⟩
     ·obtain ⟨z1, z2, _⟩ := hu.sh x (p8.2 x (by simp [hx]))
      by_cases hlt : x < w.heap.size
      ·exact .inr (z2 hlt)
      ·exact .inl ⟨by omega, z1⟩
    ·exact hV.elim
   ·exact hV.elim
  ·exact single h3.2 h3.1
 cases e with
 | normal => exact key hk
 | ret => exact key hk
 | exit i => exact hk.elim
 | goto l => exact hk.elim
 | panic c => exact hk.elim
 | outgrown => exact hk.elim

theorem af_of {f : Nat} {fn : Func} {c : Code} {rc : RC} {xs : List RV} {ds : List D} {r : Ret} (hm : P.follows .mixedOrders = true) (hf : P.funcs[f]? = some fn) (hb : fn.body = some c) (hname : (fn.name == "runtime.NumGoroutine") = false)
  (hres : resD P wv fn.ntmps c = some rc) (hxs : fn.results.toList.mapM (resRV P) = some xs) (hn : ds.length ≤ fn.ntmps) (hq : D.bdL ds → vcR P rc (st0 fn.ntmps ds) (retE xs r)) : AF P f ds r :=
 af_core hf hb hname hxs hn fun hd n0 S0 M0 w0 a w hs => wp_mono (vcR_sound hm c rc (st0 fn.ntmps ds) _ a w hres hs (hq hd)) fun _ _ _ ⟨st, _, hk, hs'⟩ => ⟨st, hk, hs'⟩

theorem af_ofE {f : Nat} {fn : Func} {c : Code} {rc : RC} {xs : List RV} {ds : List D} {r : Ret} (hm : P.follows .mixedOrders = true) (hf : P.funcs[f]? = some fn) (hb : fn.body = some c) (hname : (fn.name == "runtime.NumGoroutine") = false)
  (hres : resD P wv fn.ntmps c = some rc) (hxs : fn.results.toList.mapM (resRV P) = some xs) (hn : ds.length ≤ fn.ntmps) (hq : D.bdL ds → vcR P rc (st0 fn.ntmps ds) (fun e st => ∃ st', Ent st st' ∧ retE xs r e st')) : AF P f ds r :=
 af_core hf hb hname hxs hn fun hd n0 S0 M0 w0 a w hs => wp_mono (vcR_sound hm c rc (st0 fn.ntmps ds) _ a w hres hs (hq hd)) fun _ _ _ ⟨_, _, ⟨st', hE, hk⟩, hs'⟩ => ⟨st', hk, hE _ _ _ _ _ _ hs'⟩

end Go.Ax
namespace Go.Ax

def resFw (P : Program) (wv : Wv) (f : Nat) : Option (Nat × RC × List RV) := do
 let fn ← P.funcs[f]?
 let c ← fn.body
 guard (!(fn.name == "runtime.NumGoroutine") = true)
 let rc ← resD P wv fn.ntmps c
 let xs ← fn.results.toList.mapM (resRV P)
 pure (fn.ntmps, rc, xs)

def resF (P : Program) (f : Nat) : Option (Nat × RC × List RV) := resFw P .no f

theorem af_of_resw {P : Program} {wv : Wv} {f n : Nat} {rc : RC} {xs : List RV} (h : resFw P wv f = some (n, rc, xs)) (hm : P.follows .mixedOrders = true) {ds : List D} {r : Ret} (hn : decide (ds.length ≤ n) = true) (hq : D.bdL ds → vcR P rc (st0 n ds) (retE xs r)) : AF P f ds r := by
 unfold resFw at h
 simp only [oD, oB, oP, oS, guard_some, Prod.mk.injEq] at h
 obtain ⟨fn, hf, c, hb, _, hname, rc', hres, xs', hxs, rfl, rfl, rfl⟩ := h
 exact af_of hm hf hb (by simpa using hname) hres hxs (by simpa using hn) hq

theorem af_of_res {P : Program} {f n : Nat} {rc : RC} {xs : List RV} (h : resF P f = some (n, rc, xs)) (hm : P.follows .mixedOrders = true) {ds : List D} {r : Ret} (hn : decide (ds.length ≤ n) = true) (hq : D.bdL ds → vcR P rc (st0 n ds) (retE xs r)) : AF P f ds r :=
 af_of_resw h hm hn hq

theorem af_of_resE {P : Program} {wv : Wv} {f n : Nat} {rc : RC} {xs : List RV} (h : resFw P wv f = some (n, rc, xs)) (hm : P.follows .mixedOrders = true) {ds : List D} {r : Ret} (hn : decide (ds.length ≤ n) = true)
  (hq : D.bdL ds → vcR P rc (st0 n ds) (fun e st => ∃ st', Ent st st' ∧ retE xs r e st')) : AF P f ds r := by
 unfold resFw at h
 simp only [oD, oB, oP, oS, guard_some, Prod.mk.injEq] at h
 obtain ⟨fn, hf, c, hb, _, hname, rc', hres, xs', hxs, rfl, rfl, rfl⟩ := h
 exact af_ofE hm hf hb (by simpa using hname) hres hxs (by simpa using hn) hq

@[go_sem] theorem argEnv_nil {i : Nat} : argEnv i [] = [] := rfl
@[go_sem] theorem argEnv_cons {i : Nat} {d : D} {ds : List D} : argEnv i (d :: ds) = (i, .im none d) :: argEnv (i + 1) ds := rfl
@[go_sem] theorem st0_eq {n : Nat} {ds : List D} : st0 n ds = ⟨n, argEnv 0 ds, []⟩ := rfl
@[go_sem] theorem retE_normal {xs : List RV} {r : Ret} {st : St} : retE xs r .normal st = retK xs r st := rfl
@[go_sem] theorem retE_ret {xs : List RV} {r : Ret} {st : St} : retE xs r .ret st = retK xs r st := rfl
@[go_sem] theorem retE_exit {xs : List RV} {r : Ret} {st : St} {i : Nat} : retE xs r (.exit i) st = False := rfl
@[go_sem] theorem retK_eq {xs : List RV} {r : Ret} {st : St} : retK xs r st = rvsK st xs (retB xs st r) := rfl
@[go_sem] theorem rvsK_nil {st : St} {k : List AV → Prop} : rvsK st [] k = k [] := rfl
@[go_sem] theorem rvsK_cons {st : St} {x : RV} {xs : List RV} {k : List AV → Prop} : rvsK st (x :: xs) k = rvK st x fun av => rvsK st xs fun avs => k (av :: avs) := rfl
@[go_sem] theorem rvK_t {st : St} {n : Nat} {k : AV → Prop} : rvK st (.t n) k = k (st.get n) := rfl
@[go_sem] theorem rvK_c {st : St} {n sz : Nat} {agg : Bool} {k : AV → Prop} : rvK st (.c n sz agg) k = ldK (st.get n) st.unit agg sz (fun av _ => k av) := rfl
@[go_sem] theorem retB_own {x : RV} {st : St} {d : D} {avs : List AV} : retB [x] st (.own d) avs = retL avs [.own d] st := by simp [retB]
@[go_sem] theorem retB_sh {x : RV} {st : St} {d : D} {avs : List AV} : retB [x] st (.sh d) avs = retL avs [.sh d] st := by simp [retB]
@[go_sem] theorem retB_bxs {x : RV} {st : St} {d : D} {avs : List AV} : retB [x] st (.bxs d) avs = retP st.unit d avs := by simp [retB]
@[go_sem] theorem retP_pw {un : Nat → Option U} {d : D} {id : Nat} : retP un d [.pw id 0 0] = retPU (un id) d := rfl
@[congr] theorem retPU_cg {u u' : Option U} {d : D} (h : u = u') : retPU u d = retPU u' d := by rw [h]
@[go_sem] theorem retPU_ar {nn : Option Bool} {sz : Nat} {es : List D} {d : D} : retPU (some (.ar false nn sz es)) d = (es = [d]) := rfl
@[go_sem] theorem retB_arr {x : RV} {st : St} {sz : Nat} {es : List D} {avs : List AV} : retB [x] st (.arr sz es) avs = retV st.unit sz es avs := by simp [retB]
@[go_sem] theorem retV_sm {un : Nat → Option U} {sz : Nat} {es : List D} {id len : Nat} : retV un sz es [.sm id 0 len] = retU (un id) sz len es := rfl
@[congr] theorem retU_cg {u u' : Option U} {sz len : Nat} {es : List D} (h : u = u') : retU u sz len es = retU u' sz len es := by rw [h]
@[go_sem] theorem retU_ar {nn : Option Bool} {sz' : Nat} {es' : List D} {sz len : Nat} {es : List D} : retU (some (.ar true nn sz' es')) sz len es = (nn = some false ∧ sz' = sz ∧ es' = es ∧ len = es.length) := rfl
@[go_sem] theorem retB_tup {x y : RV} {xs : List RV} {st : St} {rs : List Ret} {avs : List AV} : retB (x :: y :: xs) st (.tup rs) avs = retL avs rs st := by simp [retB]
@[go_sem] theorem retL_nil {st : St} : retL [] [] st = True := rfl
@[go_sem] theorem retL_cons {av : AV} {avs : List AV} {r : Ret} {rs : List Ret} {st : St} : retL (av :: avs) (r :: rs) st = ret1 st av r (retL avs rs) := rfl
@[go_sem] theorem ret1_own {st : St} {av : AV} {d : D} {k : St → Prop} : ret1 st av (.own d) k = takeRt st av (retO d k) := rfl
@[congr] theorem takeRt_cg {st st' : St} {v v' : AV} {k : KT} (h : st = st') (h' : v = v') : takeRt st v k = takeRt st' v' k := by rw [h, h']
@[go_sem] theorem takeRt_vb {st : St} {i len : Nat} {k : KT} : takeRt st (.vb i len) k = takeN 12 st (.vb i len) k := rfl
@[go_sem] theorem takeRt_im {st : St} {t : Option Nat} {d : D} {k : KT} : takeRt st (.im t d) k = takeA st (.im t d) k := rfl
@[go_sem] theorem takeRt_tr {st : St} {i : Nat} {k : KT} : takeRt st (.tr i) k = takeA st (.tr i) k := rfl
@[go_sem] theorem takeRt_sm {st : St} {i off len : Nat} {k : KT} : takeRt st (.sm i off len) k = takeA st (.sm i off len) k := rfl
@[go_sem] theorem takeRt_cw {st : St} {i el j sz : Nat} {agg : Bool} {k : KT} : takeRt st (.cw i el j sz agg) k = takeA st (.cw i el j sz agg) k := rfl
@[go_sem] theorem takeRt_sg {st : St} {vs : List AV} {k : KT} : takeRt st (.sg vs) k = takeA st (.sg vs) k := rfl
@[go_sem] theorem ret1_sh {st : St} {av : AV} {d : D} {k : St → Prop} : ret1 st av (.sh d) k = retSh st av d k := rfl
@[go_sem] theorem retSh_im {st : St} {t : Option Nat} {e d : D} {k : St → Prop} : retSh st (.im t e) d k = takeA st (.im t e) (retS d k) := rfl
@[go_sem] theorem retSh_tr {st : St} {i : Nat} {d : D} {k : St → Prop} : retSh st (.tr i) d k = takeA st (.tr i) (retS d k) := rfl
@[go_sem] theorem retSh_sm {st : St} {i off len : Nat} {d : D} {k : St → Prop} : retSh st (.sm i off len) d k = takeA st (.sm i off len) (retS d k) := rfl
@[go_sem] theorem retSh_cw {st : St} {i el j sz : Nat} {agg : Bool} {d : D} {k : St → Prop} : retSh st (.cw i el j sz agg) d k = takeA st (.cw i el j sz agg) (retS d k) := rfl
@[go_sem] theorem retSh_vb {st : St} {i len : Nat} {d : D} {k : St → Prop} : retSh st (.vb i len) d k = shStep st (.vb i len) fun d' st' => d'.Le d ∧ k st' := rfl
@[go_sem] theorem retSh_sg {st : St} {vs : List AV} {d : D} {k : St → Prop} : retSh st (.sg vs) d k = if vs.any AV.isVb = true then shSeq st vs (shEnd d k) else takeA st (.sg vs) (retS d k) := rfl
@[go_sem] theorem shStep_vb {st : St} {i len : Nat} {k : D → St → Prop} : shStep st (.vb i len) k = shD (sh1 st.unit (.vb i len)) fun d => k d (st.del i) := rfl
@[go_sem] theorem shStep_im {st : St} {t : Option Nat} {d : D} {k : D → St → Prop} : shStep st (.im t d) k = shD (sh1 st.unit (.im t d)) fun d => k d st := rfl
@[go_sem] theorem shD_some {d : D} {k : D → Prop} : shD (some d) k = k d := rfl
@[go_sem] theorem shSeq_nil {st : St} {k : List D → St → Prop} : shSeq st [] k = k [] st := rfl
@[go_sem] theorem shSeq_cons {st : St} {a : AV} {r : List AV} {k : List D → St → Prop} : shSeq st (a :: r) k = shStep st a fun d st1 => shSeq st1 r fun ds st2 => k (d :: ds) st2 := rfl
@[go_sem] theorem shEnd_eq {d : D} {k : St → Prop} {ds : List D} {st : St} : shEnd d k ds st = shD (sgD ds) fun d' => d'.Le d ∧ k st := rfl
attribute [go_sem] sh1 AV.isVb sgD
@[go_sem] theorem retO_eq {d : D} {k : St → Prop} {own : Bool} {d' : D} {st' : St} : retO d k own d' st' = (own = true ∧ d'.Le d ∧ k st') := rfl
@[go_sem] theorem retS_eq {d : D} {k : St → Prop} {own : Bool} {d' : D} {st' : St} : retS d k own d' st' = (d'.Le d ∧ k st') := rfl
@[go_sem] theorem Le_refl_eq {d : D} : D.Le d d = True := eq_true (D.Le.refl d)

theorem D.Le.sc_eq {a b : Value} (h : a = b) : D.Le (.sc a) (.sc b) := h ▸ D.Le.refl _

end Go.Ax
namespace Go.Ax

variable {P : Program} {wv : Wv} {n0 : Nat} {S0 M0 : Nat → Prop} {w0 : World}

def argEnvW : Nat → List AV → List (Nat × AV)
 | _, [] => []
 | i, a :: as => (i, a) :: argEnvW (i + 1) as
def stW (n : Nat) (us : List U) (as : List AV) : St := ⟨n, argEnvW 0 as, wids 0 us⟩

theorem argsW_env {h : Heap} {us : List (Nat × U)} {g : Gh} : ∀ {as : List AV} {vs : List Value} (i : Nat), VRepL h us g as vs → ∀ t,
  (∀ d, lk (argEnvW i as) t = d → d = .any ∨ ∃ v, vs[t - i]? = some v ∧ i ≤ t ∧ VRep h us g d v)
 | [], _, i, _, t => by intro d hd; simp [argEnvW, lk] at hd; exact .inl hd.symm
 | a :: as, vs, i, hr, t => by
  simp only [VRepL] at hr
  obtain ⟨v, r, rfl, h1, h4⟩ := hr
  intro e he
  simp only [argEnvW, lk] at he
  split at he
  ·next hi =>
   subst hi; subst he
   exact .inr ⟨v, by simp, Nat.le_refl _, h1⟩
  ·next hi =>
   rcases argsW_env (i + 1) h4 t e he with h | ⟨v', hv, hle, hr⟩
   ·exact .inl h
   ·refine .inr ⟨v', ?_, by omega, hr⟩
    rw [show t - i = (t - (i + 1)) + 1 by omega]
    simpa using hv
theorem vrepl_len {h : Heap} {us : List (Nat × U)} {g : Gh} : ∀ {as : List AV} {vs : List Value}, VRepL h us g as vs → vs.length = as.length
 | [], vs, hr => by simp only [VRepL] at hr; simp [hr]
 | a :: as, vs, hr => by
  simp only [VRepL] at hr
  obtain ⟨v, r, rfl, _, h2⟩ := hr
  simp [vrepl_len h2]

def pinM (n0 : Nat) (us : List U) (g : Gh) (b : Nat) : Prop :=
 (b < n0 ∧ b ∈ fp g (wids 0 us)) ∨ (∃ k v, k < us.length ∧ g.β (3000000000 + k) = some v ∧ b = n0 + (16 * v + k)) ∨ (∃ k, k < us.length ∧ b = n0 + (16 * g.cap (3000000000 + k) + (8 + k)))

theorem sat_startW {w : World} {old : Nat → Prop} {us : List U} {as : List AV} {vs : List Value} {n : Nat} {g : Gh} (hW : WSat w.heap old us g) (ha : VRepL w.heap (wids 0 us) g as vs) (hn : as.length ≤ n) (h8 : us.length ≤ 8) :
  Sat w.heap.size (fun b => old b ∨ b ∈ fp g (wids 0 us)) (pinM w.heap.size us g) w (stW n us as) { tmps := vs.toArray ++ Array.replicate (n - vs.toArray.size) undef, defers := [] } w := by
 have hl := vrepl_len ha
 refine ⟨fun b hb hm => ?_, rfl, by simp [stW]; omega, rfl, rfl, rfl, rfl, Nat.le_refl _, fun _ _ _ => rfl, g, ⟨wids_nodup, hW.nodup, hW.lt, fun b hb hlt => .inl ⟨hlt, hb⟩, hW.dead, fun b hb => ⟨(hW.sh b hb).1, fun _ => .inl (hW.sh b hb).2.1, (hW.sh b hb).2.2⟩, hW.each, hW.fz, ?_⟩, fun t => ?_⟩
 ·rcases hm with ⟨_, h⟩ | ⟨k, v, _, _, rfl⟩ | ⟨k, _, rfl⟩
  ·exact .inr h
  ·omega
  ·omega
 ·intro k v hk _
  refine ⟨fun hm => ?_, fun hm _ => ?_⟩
  ·rcases hm with ⟨h, _⟩ | ⟨k', v', hk', h, e⟩ | ⟨k', hk', e⟩
   ·omega
   ·have : k' = k := by omega
    subst this
    have : v' = v := by omega
    subst this
    exact h
   ·omega
  ·rcases hm with ⟨h, _⟩ | ⟨k', v', hk', h, e⟩ | ⟨k', hk', e⟩
   ·omega
   ·omega
   ·have : k' = k := by omega
    subst this
    omega
 ·rcases argsW_env 0 ha t _ rfl with h | ⟨v, hv, _, hr⟩
  ·simp only [stW]
   rw [h]
   simp [VRep]
  ·have hlt : t < vs.length := (List.getElem?_eq_some_iff.1 hv).1
   have e : (vs.toArray ++ Array.replicate (n - vs.toArray.size) undef).getD t undef = v := by
    rw [Array.getD_eq_getD_getElem?, Array.getElem?_append_left (by simpa using hlt)]
    simp at hv
    simp [hv]
   rw [e]
   exact hr

def bdU : U → Prop
 | .ar _ _ _ es => D.bdL es
 | .own d => d.bd
 | .bx _ _ => True
 | .sb _ _ _ => True
def bdWs : List U → Prop
 | [] => True
 | u :: r => bdU u ∧ bdWs r
def bdA : AV → Prop
 | .im _ d => d.bd
 | _ => True
def bdAs : List AV → Prop
 | [] => True
 | a :: r => bdA a ∧ bdAs r
theorem bdAs_of {h : Heap} {us : List (Nat × U)} {g : Gh} : ∀ {as : List AV} {vs : List Value}, VRepL h us g as vs → bdAs as
 | [], _, _ => by simp [bdAs]
 | a :: as, vs, hr => by
  simp only [VRepL] at hr
  obtain ⟨v, r, rfl, h1, h2⟩ := hr
  refine ⟨?_, bdAs_of h2⟩
  cases a with
  | im t d => simp only [VRep] at h1; obtain ⟨F, q, _⟩ := h1; exact q.bd
  | _ => simp [bdA]
theorem bdWs_of {us : List U} (H : ∀ u ∈ us, bdU u) : bdWs us := by
 induction us with
 | nil => simp [bdWs]
 | cons u r ih => exact ⟨H u (by simp), ih fun v hv => H v (by simp [hv])⟩
theorem WSat.bd {h : Heap} {old : Nat → Prop} {us : List U} {g : Gh} (hW : WSat h old us g) : bdWs us := by
 refine bdWs_of fun u hu => ?_
 obtain ⟨i, hi, rfl⟩ := List.getElem_of_mem hu
 have hm : (3000000000 + (0 + i), us[i]) ∈ wids 0 us := mem_wids.2 ⟨i, us[i], by simp [hi], rfl⟩
 have ho := hW.each _ hm
 generalize us[i] = u at ho
 cases u with
 | ar ow nn sz es =>
  simp only [UOk] at ho
  simp only [bdU]
  rcases ho.2.2 with ⟨_, rfl, _⟩ | ⟨b, c, e, G, cs, rest, _, _, _, _, _, k6, _⟩
  ·simp [D.bdL]
  ·exact k6.bd
 | own d =>
  simp only [UOk] at ho
  exact ho.2.1.bd
 | bx sz items => simp [bdU]
 | sb T E s => simp [bdU]

def retW1 (st : St) (av : AV) (r : Ret) (k : St → Prop) : Prop :=
 match r with
 | .own d => takeRt st av (retO d k)
 | _ => False
def retWL (k : St → Prop) : List AV → List Ret → St → Prop
 | [], [], st => k st
 | av :: avs, r :: rs, st => retW1 st av r (retWL k avs rs)
 | _, _, _ => False
def endU (u : Option U) (x : U) : Prop :=
 match u, x with
 | some (.ar ow nn sz es), .ar ow' nn' sz' es' => ow = ow' ∧ nn = none ∧ nn' = none ∧ sz = sz' ∧ es = es'
 | some (.bx sz items), .bx sz' items' => sz = sz' ∧ items = items'
 | some (.sb T E s), .sb T' E' s' => T = T' ∧ E = E' ∧ s = s'
 | _, _ => False
def endUs (st : St) : Nat → List U → Prop
 | _, [] => True
 | i, x :: r => endU (st.unit (3000000000 + i)) x ∧ endUs st (i + 1) r
def retWB (xs : List RV) (us' : List U) (st : St) (r : Ret) (avs : List AV) : Prop :=
 match r with
 | .tup rs => xs.length ≠ 1 ∧ retWL (fun st => endUs st 0 us') avs rs st
 | r => xs.length = 1 ∧ retWL (fun st => endUs st 0 us') avs [r] st
def retWK (xs : List RV) (us' : List U) (r : Ret) (st : St) : Prop := rvsK st xs (retWB xs us' st r)
def retWE (xs : List RV) (us' : List U) (r : Ret) (e : Exit) (st : St) : Prop :=
 match e with
 | .normal => retWK xs us' r st
 | .ret => retWK xs us' r st
 | _ => False

def okUs (m : Nat) : List U → Bool
 | [] => true
 | .bx _ items :: r => okWL m items && okUs m r
 | _ :: r => okUs m r
theorem okUs_mem {m : Nat} : ∀ {us : List U}, okUs m us = true → ∀ sz items, U.bx sz items ∈ us → okWL m items = true
 | [], _, _, _, h => by cases h
 | u :: r, h, sz, items, hm => by
  cases u with
  | bx sz' items' =>
   simp only [okUs, bA] at h
   rcases List.mem_cons.1 hm with e | hm
   ·cases e; exact h.1
   ·exact okUs_mem h.2 sz items hm
  | _ =>
   simp only [okUs] at h
   rcases List.mem_cons.1 hm with e | hm
   ·cases e
   ·exact okUs_mem h sz items hm
def pinUs : List U → List U → Bool
 | _, [] => true
 | u :: r, _ :: r' => u.isPin && pinUs r r'
 | [], _ :: _ => false
theorem pinUs_spec : ∀ {us us' : List U}, pinUs us us' = true → us'.length ≤ us.length ∧ ∀ i (h : i < us'.length), ∃ u, us[i]? = some u ∧ u.isPin = true
 | us, [], _ => by simp
 | [], _ :: _, h => by cases h
 | u :: r, u' :: r', h => by
  simp only [pinUs, bA] at h
  obtain ⟨h1, h2⟩ := pinUs_spec h.2
  refine ⟨by simp [h1], fun i hi => ?_⟩
  cases i with
  | zero => exact ⟨u, rfl, h.1⟩
  | succ i =>
   obtain ⟨v, q1, q2⟩ := h2 i (by simpa using hi)
   exact ⟨v, by simpa using q1, q2⟩
mutual
theorem okW_rep {h : Heap} {us us2 : List (Nat × U)} {g : Gh} {m : Nat} (hA : ∀ k, 3000000000 ≤ k → k < 3000000000 + m → ∀ u, (k, u) ∈ us → (k, u) ∈ us2) : ∀ {av : AV} {v : Value}, av.okW m = true → VRep h us g av v → VRep h us2 g av v
 | .im none d, v, ho, hr => by simpa only [VRep] using hr
 | .im (some t) d, v, ho, hr => by simp [AV.okW] at ho
 | .pw k el j, v, ho, hr => by
  simp only [AV.okW, bA, decide_eq_true_eq] at ho
  simp only [VRep] at hr ⊢
  obtain ⟨ow, nn, sz, es, b, r1, r2, r3, r4, r5⟩ := hr
  exact ⟨_, _, _, _, b, hA k ho.1 ho.2 _ r1, r2, r3, r4, r5⟩
 | .pb k j, v, ho, hr => by
  simp only [AV.okW, bA, decide_eq_true_eq] at ho
  simp only [VRep] at hr ⊢
  obtain ⟨sz, items, b, r1, r2, r3⟩ := hr
  exact ⟨_, _, b, hA k ho.1 ho.2 _ r1, r2, r3⟩
 | .cl f vs, v, ho, hr => by
  simp only [AV.okW] at ho
  simp only [VRep] at hr ⊢
  obtain ⟨xs, r1, r2⟩ := hr
  exact ⟨xs, okWL_rep hA ho r1, r2⟩
 | .sg vs, v, ho, hr => by
  simp only [AV.okW] at ho
  simp only [VRep] at hr ⊢
  obtain ⟨xs, r1, r2⟩ := hr
  exact ⟨xs, okWL_rep hA ho r1, r2⟩
 | .tr _, v, ho, hr => by simp [AV.okW] at ho
 | .cw _ _ _ _ _, v, ho, hr => by simp [AV.okW] at ho
 | .sm _ _ _, v, ho, hr => by simp [AV.okW] at ho
 | .vb _ _, v, ho, hr => by simp [AV.okW] at ho
 | .tup _, v, ho, hr => by simp [AV.okW] at ho
 | .any, v, ho, hr => by simp [AV.okW] at ho
 | .ps _, v, ho, hr => by simp [AV.okW] at ho
 | .pq _ _ _ _ _ _, v, ho, hr => by simp [AV.okW] at ho
 | .qs _ _ _ _ _ _, v, ho, hr => by simp [AV.okW] at ho
 | .ss _ _ _, v, ho, hr => by simp [AV.okW] at ho
 | .z0 _ _, v, ho, hr => by simp [AV.okW] at ho
theorem okWL_rep {h : Heap} {us us2 : List (Nat × U)} {g : Gh} {m : Nat} (hA : ∀ k, 3000000000 ≤ k → k < 3000000000 + m → ∀ u, (k, u) ∈ us → (k, u) ∈ us2) : ∀ {avs : List AV} {vs : List Value}, okWL m avs = true → VRepL h us g avs vs → VRepL h us2 g avs vs
 | [], vs, _, hr => by simpa [VRepL] using hr
 | a :: as, vs, ho, hr => by
  simp only [okWL, bA] at ho
  simp only [VRepL] at hr ⊢
  obtain ⟨v, r, rfl, h1, h2⟩ := hr
  exact ⟨v, r, rfl, okW_rep hA ho.1 h1, okWL_rep hA ho.2 h2⟩
end

theorem endUs_spec {st : St} : ∀ {us' : List U} {n : Nat}, endUs st n us' → ∀ x ∈ wids n us', x ∈ st.us ∧ x.2.isPin = true
 | [], _, _, x, hx => by simp [wids] at hx
 | u :: r, n, h, x, hx => by
  simp only [wids, List.mem_cons] at hx
  rcases hx with rfl | hx
  ·have := h.1
   unfold endU at this
   split at this
   ·next ow nn sz es ow' nn' sz' es' hun =>
    obtain ⟨rfl, rfl, rfl, rfl, rfl⟩ := this
    exact ⟨lu_mem' hun, rfl⟩
   ·next sz items sz' items' hun =>
    obtain ⟨rfl, rfl⟩ := this
    exact ⟨lu_mem' hun, rfl⟩
   ·next T E s T' E' s' hun =>
    obtain ⟨rfl, rfl, rfl⟩ := this
    exact ⟨lu_mem' hun, rfl⟩
   ·exact this.elim
  ·exact endUs_spec h.2 x hx

theorem retW_list {h : Heap} {st1 : St} {tm : Nat → Value} {g0 : Gh} {k : St → Prop} (h0 : USat h n0 S0 M0 st1.us g0) : ∀ {avs : List AV} {vs : List Value} {rs : List Ret} {st : St} {g : Gh}, Took h n0 S0 M0 st1 st tm g0 g → VRepL h st1.us g0 avs vs → retWL k avs rs st →
  ∃ F st' g', Took h n0 S0 M0 st1 st' tm g0 g' ∧ k st' ∧ RetRepL h rs F [] vs ∧ F.Nodup ∧ (∀ b ∈ F, ¬ g.Sh b ∧ b ∈ fp g st.us ∧ b ∉ fp g' st'.us) ∧ (∀ b, g'.Sh b ↔ g.Sh b) ∧ (∀ b, b ∈ fp g' st'.us → b ∈ fp g st.us)
 | [], vs, rs, st, g, T, hr, hk => by
  simp only [VRepL] at hr
  subst hr
  cases rs with
  | nil => exact ⟨[], st, g, T, hk, by simp [RetRepL], List.nodup_nil, by simp, fun _ => Iff.rfl, fun _ h => h⟩
  | cons => simp [retWL] at hk
 | av :: avs, vs, rs, st, g, T, hr, hk => by
  simp only [VRepL] at hr
  obtain ⟨v, vs', rfl, hv, hvs⟩ := hr
  cases rs with
  | nil => simp [retWL] at hk
  | cons r rs =>
   simp only [retWL] at hk
   unfold retW1 at hk
   split at hk
   ·next d =>
    obtain ⟨own, d', st', g', F1, ⟨rfl, hle, hk'⟩, T', r1, r2, ⟨o1, _⟩, hsh, hfp⟩ := takeRt_ok h0 T hv hk
    obtain ⟨on, o2⟩ := o1 rfl
    obtain ⟨F2, st2, g2, T2, hk2, p1, p2, p3, p4, p5⟩ := retW_list h0 T' hvs hk'
    refine ⟨F1 ++ F2, st2, g2, T2, hk2, ?_, ?_, ?_, fun b => (p4 b).trans (hsh b), fun b hb => hfp b (p5 b hb)⟩
    ·simp only [RetRepL]
     exact ⟨F1, F2, [], [], v, vs', rfl, rfl, rfl, by simp only [RetRep]; exact ⟨trivial, hle.1 _ _ _ r1, hle.2 _ r2⟩, p1⟩
    ·refine List.nodup_append.2 ⟨on, p2, fun x hx y hy e => ?_⟩
     subst e
     exact (o2 x hx).2.2.1 (p3 x hy).2.1
    ·intro b hb
     rcases List.mem_append.1 hb with hb | hb
     ·obtain ⟨_, q1, q2, q3⟩ := o2 b hb
      exact ⟨fun hs => q1 ((hsh b).2 hs), q3, fun hf => q2 (p5 b hf)⟩
     ·obtain ⟨q1, q2, q3⟩ := p3 b hb
      exact ⟨fun hs => q1 ((hsh b).2 hs), hfp b q2, q3⟩
   ·exact hk.elim

theorem afw_of_res {f n : Nat} {rc : RC} {xs : List RV} (h : resFw P wv f = some (n, rc, xs)) (hm : P.follows .mixedOrders = true) {us us' : List U} {as : List AV} {r : Ret} (hn : decide (as.length ≤ n) = true) (h8 : decide (us.length ≤ 8) = true) (hpu : (pinUs us us' && okUs us'.length us') = true)
  (hq : bdWs us → bdAs as → vcR P rc (stW n us as) (retWE xs us' r)) : AFW P f us as us' r := by
 have hn : as.length ≤ n := by simpa using hn
 have h8 : us.length ≤ 8 := by simpa using h8
 rw [bA] at hpu
 obtain ⟨hl, hpi⟩ := pinUs_spec hpu.1
 unfold resFw at h
 simp only [oD, oB, oP, oS, guard_some, Prod.mk.injEq] at h
 obtain ⟨fn, hf, c, hb, _, hname, rc', hres, xs', hxs, rfl, rfl, rfl⟩ := h
 refine ⟨⟨fn, hf, by simp [hb], by simpa using hname⟩, h8, fun w vs old g hW ha => ?_⟩
 refine calls_of_wp hf hb ?_
 have hs := sat_startW hW ha hn h8
 have := vcR_sound hm c rc' (stW fn.ntmps us as) _ _ w hres hs (hq hW.bd (bdAs_of ha))
 refine wp_mono this ?_
 rintro e a' w' ⟨st, hstn, hk, hs'⟩
 have hxl : xs'.length = fn.results.toList.length := (mapM_len hxs)
 have key : retWK xs' us' r st → a'.defers = [] ∧ ∃ v, (results fn a'.tmps).run P w' = .ok v w' ∧
   (∃ v' F g', Ending.returned v = .returned v' ∧ w'.os = w.os ∧ w'.tape = w.tape ∧ w'.output = w.output ∧ w.heap.size ≤ w'.heap.size ∧
   (∀ b, b < w.heap.size → b ∉ fp g (wids 0 us) → w'.heap[b]? = w.heap[b]?) ∧ WEnd w'.heap w.heap.size old us us' g g' F ∧ RetRep w'.heap r F [] v') := by
  intro hk
  refine ⟨hs'.dfr, ?_⟩
  obtain ⟨g1, hu, hv⟩ := hs'.gh
  obtain ⟨avs, vs', h1, h2, h3, h4⟩ := rvs_run (P := P) hu hv hxs hk
  refine ⟨_, results_eq h1, ?_⟩
  have fin : ∀ {rs : List Ret}, retWL (fun st => endUs st 0 us') avs rs st → ∃ F g', RetRepL w'.heap rs F [] vs' ∧ WEnd w'.heap w.heap.size old us us' g g' F := by
   intro rs hL
   obtain ⟨F, st2, g2, T, hE, q1, q2, q3, q4, q5⟩ := retW_list hu (Took.refl hu hv) h2 hL
   have hin := endUs_spec hE
   have hu2 := T.us
   have inf : ∀ b, b ∈ fp g2 (wids 0 us') → b ∈ fp g2 st2.us := fun b hb => by
    obtain ⟨x, hx, hbx⟩ := mem_fp.1 hb
    exact mem_fp.2 ⟨x, (hin x hx).1, hbx⟩
   have low : ∀ b, b < w.heap.size → pinM w.heap.size us g b → b ∈ fp g (wids 0 us) := by
    intro b hb hp
    rcases hp with ⟨_, h⟩ | ⟨_, _, _, _, rfl⟩ | ⟨_, _, rfl⟩
    ·exact h
    ·omega
    ·omega
   refine ⟨F, g2, q1, ⟨?_, ?_, ?_, ?_, ?_⟩⟩
   ·intro x hx
    have ho := hu2.each x (hin x hx).1
    have hp := (hin x hx).2
    obtain ⟨i, u, hi, rfl⟩ := mem_wids.1 hx
    cases u with
    | ar ow nn sz es => simpa only [UOk] using ho
    | own d => cases hp
    | sb T E s => simpa only [UOk] using ho
    | bx sz items =>
     have hmem : U.bx sz items ∈ us' := List.mem_of_getElem? hi
     have hok := okUs_mem hpu.2 _ _ hmem
     simp only [UOk] at ho ⊢
     obtain ⟨p1, b, c, e, xs, rest, p2, p3, p4, p5, p6⟩ := ho
     refine ⟨p1, b, c, e, xs, rest, p2, p3, p4, okWL_rep (fun k hk1 hk2 u hu' => ?_) hok p5, p6⟩
     have hlt : k - 3000000000 < us'.length := by omega
     have hm2 : (3000000000 + (0 + (k - 3000000000)), us'[k - 3000000000]) ∈ wids 0 us' := mem_wids.2 ⟨k - 3000000000, _, by simp [hlt], rfl⟩
     have hk3 : 3000000000 + (0 + (k - 3000000000)) = k := by omega
     rw [hk3] at hm2
     have := hu2.uniq hu' (hin _ hm2).1
     rw [this]
     exact hm2
   ·intro x hx
    obtain ⟨i, u, hi, rfl⟩ := mem_wids.1 hx
    have hi' := (List.getElem?_eq_some_iff.1 hi).1
    have hil : i < us.length := by omega
    obtain ⟨u0, hu0, hp0⟩ := hpi i hi'
    simp only [Nat.zero_add]
    obtain ⟨hm0, hpin⟩ := hin _ hx
    rw [Nat.zero_add] at hm0
    obtain ⟨b, hb⟩ : ∃ b, g.β (3000000000 + i) = some b := by
     have := hW.blk _ (mem_wids.2 ⟨i, u0, hu0, rfl⟩) hp0
     simp only [Nat.zero_add] at this
     cases hb : g.β (3000000000 + i) with
     | none => exact absurd hb this
     | some b => exact ⟨b, rfl⟩
    have p1 := (hu2.pin i b (by omega) ⟨_, hm0, hpin⟩).1 (.inr (.inl ⟨i, b, hil, hb, rfl⟩))
    have p2 := (hu2.pin i (g.cap (3000000000 + i)) (by omega) ⟨_, hm0, hpin⟩).2 (.inr (.inr ⟨i, hil, rfl⟩)) (by rw [p1]; simp)
    exact ⟨by rw [p1, hb], p2⟩
   ·refine List.nodup_append.2 ⟨q2, nodup_flat wids_nodup (fun x hx => phi_nodup hu2 (hin x hx).1) (fun x hx y hy b hbx hby => fp_apart hu2.keys hu2.nodup (hin x hx).1 (hin y hy).1 hbx hby), ?_⟩
    rintro x hx y hy rfl
    exact (q3 x hx).2.2 (inf x hy)
   ·intro b hb
    have hb1 : b ∈ fp g1 st.us ∧ ¬ g1.Sh b := by
     rcases List.mem_append.1 hb with hb | hb
     ·exact ⟨(q3 b hb).2.1, (q3 b hb).1⟩
     ·have := inf b hb
      exact ⟨q5 b this, fun hs => (hu2.sh b ((q4 b).2 hs)).2.2 this⟩
    exact ⟨hu.lt b hb1.1, hu.fz b hb1.1, fun hlt => low b hlt (hu.low b hb1.1 hlt), fun hs => hb1.2 ((q4 b).1 hs)⟩
   ·intro b hb
    obtain ⟨p1, p2, _⟩ := hu2.sh b hb
    exact ⟨p1, p2⟩
  have hfr : ∀ b, b < w.heap.size → b ∉ fp g (wids 0 us) → w'.heap[b]? = w.heap[b]? := by
   intro b hb hn
   refine hs'.old b hb fun hp => hn ?_
   rcases hp with ⟨_, h⟩ | ⟨_, _, _, _, rfl⟩ | ⟨_, _, rfl⟩
   ·exact h
   ·omega
   ·omega
  have single : ∀ {r : Ret}, retWL (fun st => endUs st 0 us') avs [r] st → xs'.length = 1 → ∃ v' F g', Ending.returned (if h : vs'.length = 1 then vs'[0] else .tuple vs'.toArray) = .returned v' ∧ w'.os = w.os ∧ w'.tape = w.tape ∧ w'.output = w.output ∧ w.heap.size ≤ w'.heap.size ∧
   (∀ b, b < w.heap.size → b ∉ fp g (wids 0 us) → w'.heap[b]? = w.heap[b]?) ∧ WEnd w'.heap w.heap.size old us us' g g' F ∧ RetRep w'.heap r F [] v' := by
   intro r hL hx1
   obtain ⟨F, g', q1, q2⟩ := fin hL
   simp only [RetRepL] at q1
   obtain ⟨F1, F2, G1, G2, v, ws, rfl, hG, rfl, hr, hF2, hG2, hws⟩ := q1
   subst hF2; subst hG2; subst hws
   simp only [List.append_nil] at hG q2
   subst hG
   exact ⟨v, F1, g', by simp, hs'.os, hs'.tape, hs'.output, hs'.size, hfr, q2, hr⟩
  unfold retWB at h3
  split at h3
  ·next rs =>
   obtain ⟨F, g', q1, q2⟩ := fin h3.2
   refine ⟨_, F, g', by rw [dif_neg (by rw [h4, ← hxl]; exact h3.1)], hs'.os, hs'.tape, hs'.output, hs'.size, hfr, q2, ?_⟩
   simp only [RetRep]
   exact ⟨_, rfl, by simpa using q1⟩
  ·exact single h3.2 h3.1
 cases e with
 | normal => exact key hk
 | ret => exact key hk
 | exit i => exact hk.elim
 | goto l => exact hk.elim
 | panic c => exact hk.elim
 | outgrown => exact hk.elim

attribute [go_sem] Option.isSome_none Option.isSome_some
@[go_sem] theorem argEnvW_nil {i : Nat} : argEnvW i [] = [] := rfl
@[go_sem] theorem argEnvW_cons {i : Nat} {a : AV} {as : List AV} : argEnvW i (a :: as) = (i, a) :: argEnvW (i + 1) as := rfl
@[go_sem] theorem stW_eq {n : Nat} {us : List U} {as : List AV} : stW n us as = ⟨n, argEnvW 0 as, wids 0 us⟩ := rfl
@[go_sem] theorem wids_nil {i : Nat} : wids i [] = [] := rfl
@[go_sem] theorem wids_cons {i : Nat} {u : U} {r : List U} : wids i (u :: r) = (3000000000 + i, u) :: wids (i + 1) r := rfl
@[go_sem] theorem retWE_normal {xs : List RV} {us' : List U} {r : Ret} {st : St} : retWE xs us' r .normal st = retWK xs us' r st := rfl
@[go_sem] theorem retWE_ret {xs : List RV} {us' : List U} {r : Ret} {st : St} : retWE xs us' r .ret st = retWK xs us' r st := rfl
@[go_sem] theorem retWE_exit {xs : List RV} {us' : List U} {r : Ret} {st : St} {i : Nat} : retWE xs us' r (.exit i) st = False := rfl
@[go_sem] theorem retWK_eq {xs : List RV} {us' : List U} {r : Ret} {st : St} : retWK xs us' r st = rvsK st xs (retWB xs us' st r) := rfl
@[go_sem] theorem retWB_own {x : RV} {us' : List U} {st : St} {d : D} {avs : List AV} : retWB [x] us' st (.own d) avs = retWL (fun st => endUs st 0 us') avs [.own d] st := by simp [retWB]
@[go_sem] theorem retWB_tup0 {us' : List U} {st : St} {rs : List Ret} {avs : List AV} : retWB [] us' st (.tup rs) avs = retWL (fun st => endUs st 0 us') avs rs st := by simp [retWB]
@[go_sem] theorem retWB_tup {x y : RV} {xs : List RV} {us' : List U} {st : St} {rs : List Ret} {avs : List AV} : retWB (x :: y :: xs) us' st (.tup rs) avs = retWL (fun st => endUs st 0 us') avs rs st := by simp [retWB]
@[go_sem] theorem retWL_nil {k : St → Prop} {st : St} : retWL k [] [] st = k st := rfl
@[go_sem] theorem retWL_cons {k : St → Prop} {av : AV} {avs : List AV} {r : Ret} {rs : List Ret} {st : St} : retWL k (av :: avs) (r :: rs) st = retW1 st av r (retWL k avs rs) := rfl
@[go_sem] theorem retW1_own {st : St} {av : AV} {d : D} {k : St → Prop} : retW1 st av (.own d) k = takeRt st av (retO d k) := rfl
@[go_sem] theorem endUs_nil {st : St} {i : Nat} : endUs st i [] = True := rfl
@[go_sem] theorem endUs_cons {st : St} {i : Nat} {x : U} {r : List U} : endUs st i (x :: r) = (endU (st.unit (3000000000 + i)) x ∧ endUs st (i + 1) r) := rfl
@[congr] theorem endU_cg {u u' : Option U} {x : U} (h : u = u') : endU u x = endU u' x := by rw [h]
@[go_sem] theorem endU_ar {ow : Bool} {nn : Option Bool} {sz : Nat} {es : List D} {ow' : Bool} {nn' : Option Bool} {sz' : Nat} {es' : List D} : endU (some (.ar ow nn sz es)) (.ar ow' nn' sz' es') = (ow = ow' ∧ nn = none ∧ nn' = none ∧ sz = sz' ∧ es = es') := rfl
@[go_sem] theorem endU_bx {sz : Nat} {items : List AV} {sz' : Nat} {items' : List AV} : endU (some (.bx sz items)) (.bx sz' items') = (sz = sz' ∧ items = items') := rfl

@[go_sem] theorem bdWs_nil : bdWs [] = True := rfl
@[go_sem] theorem bdWs_cons {u : U} {r : List U} : bdWs (u :: r) = (bdU u ∧ bdWs r) := rfl
@[go_sem] theorem bdU_ar {ow : Bool} {nn : Option Bool} {sz : Nat} {es : List D} : bdU (.ar ow nn sz es) = D.bdL es := rfl
@[go_sem] theorem bdU_own {d : D} : bdU (.own d) = d.bd := rfl
@[go_sem] theorem bdU_bx {sz : Nat} {items : List AV} : bdU (.bx sz items) = True := rfl
@[go_sem] theorem bdAs_nil : bdAs [] = True := rfl
@[go_sem] theorem bdAs_cons {a : AV} {r : List AV} : bdAs (a :: r) = (bdA a ∧ bdAs r) := rfl
@[go_sem] theorem bdA_im {t : Option Nat} {d : D} : bdA (.im t d) = d.bd := rfl

end Go.Ax
namespace Go.Ax

inductive MV where
 | va (x : Value)
 | rt
 | pt (i j : Nat)
 | sb (i j : Nat)
 | sg (i j z : Nat)
 | any
 deriving Inhabited

def mlk : List (Nat × MV) → Nat → MV
 | [], _ => .any
 | (k, v) :: r, t => if k = t then v else mlk r t

structure MS where
 bx : Bool
 ds : List D
 env : List (Nat × MV)

def MS.set (s : MS) (d : Nat) (v : MV) : MS := ⟨s.bx, s.ds, (d, v) :: s.env⟩
def kilV : MV → MV
 | .sb _ _ => .any
 | .sg _ _ _ => .any
 | .pt i j => .pt i j
 | v => v
def kil : List (Nat × MV) → List (Nat × MV)
 | [] => []
 | (k, v) :: r => (k, kilV v) :: kil r
def kilP : List (Nat × MV) → List (Nat × MV)
 | [] => []
 | (k, .va x) :: r => (k, .va x) :: kilP r
 | (k, .rt) :: r => (k, .rt) :: kilP r
 | (k, _) :: r => (k, .any) :: kilP r
def mev (env : List (Nat × MV)) : X → MV
 | .t n => mlk env n
 | .c (.sc x) => .va x
 | .c _ => .any

def mLen (x : MV) (sl : Bool) (d : Nat) (s : MS) (k : MS → Prop) : Prop :=
 match x with
 | .rt => sl = true ∧ k (s.set d (.va (.int .i64 s.ds.length)))
 | _ => False
def mBin (x y : MV) (op : BinOp) (d : Nat) (s : MS) (k : MS → Prop) : Prop :=
 match x, y with
 | .va a, .va b => binV op a b fun v => k (s.set d (.va v))
 | _, _ => False
def mIa (x i : MV) (sl : Bool) (sz z d : Nat) (s : MS) (k : MS → Prop) : Prop :=
 match x, i with
 | .rt, .va (.int _ n) => (sl = true ∧ s.bx = true ∧ z = sz ∧ 0 < sz ∧ 0 ≤ n ∧ n < s.ds.length) ∧ k (s.set d (.pt n.toNat 0))
 | _, _ => False
def mFa (x : MV) (sz off d : Nat) (s : MS) (k : MS → Prop) : Prop :=
 match x with
 | .pt i j => j + off < sz ∧ k (s.set d (.pt i (j + off)))
 | _ => False
def mBox (x : MV) (sl : Bool) (sz z d : Nat) (s : MS) (k : MS → Prop) : Prop :=
 match x with
 | .rt => (sl = false ∧ s.bx = false ∧ z = sz ∧ 0 < sz ∧ 0 < s.ds.length) ∧ k ⟨true, s.ds, (d, .pt 0 0) :: kilP s.env⟩
 | _ => False
def mLd (x : MV) (agg : Bool) (z d : Nat) (s : MS) (k : MS → Prop) : Prop :=
 match x with
 | .pt i j => ((agg = false ∧ z = 1) ∧ k (s.set d (.sb i j))) ∨ ((agg = true ∧ j + z ≤ (D.at s.ds i).size ∧ (D.at s.ds i).isAg = true) ∧ k (s.set d (.sg i j z)))
 | _ => False
def mSt (x y : MV) (sl : Bool) (sz z : Nat) (s : MS) (k : MS → Prop) : Prop :=
 match x, y with
 | .pt i j, .va y => (sl = true ∧ z = 1 ∧ y.oneCell' = true ∧ (D.sub (D.at s.ds i) j 1 false).isSc = true ∧ (j = 0 ∧ 1 = sz ∨ (D.at s.ds i).isAg = true)) ∧
   k ⟨s.bx, s.ds.set i (D.put sz (D.at s.ds i) j 1 (.sc y)), kil s.env⟩
 | _, _ => False
def mMcl (x y : MV) (P : Program) (sz d f : Nat) (s : MS) (k : MS → Prop) : Prop :=
 match x, y with
 | .sb i j, .va (.int .i64 n) => ∃ e' n', AFM P f (D.sub (D.at s.ds i) j 1 false) n e' n' ∧ ((D.sub (D.at s.ds i) j 1 false).isAg = false ∧ (j = 0 ∧ 1 = sz ∨ (D.at s.ds i).isAg = true)) ∧
   k ⟨s.bx, s.ds.set i (D.put sz (D.at s.ds i) j 1 e'), (d, .va (.int .i64 n')) :: s.env⟩
 | .sg i j z, .va (.int .i64 n) => ∃ e' n', AFM P f (D.sub (D.at s.ds i) j z true) n e' n' ∧ (D.at s.ds i).isAg = true ∧
   k ⟨s.bx, s.ds.set i (D.put sz (D.at s.ds i) j z e'), (d, .va (.int .i64 n')) :: s.env⟩
 | _, _ => False
def mOp (P : Program) (sl : Bool) (sz : Nat) (r : ROp) (s : MS) (k : MS → Prop) : Prop :=
 match r with
 | .mv d x => k (s.set d (mev s.env x))
 | .len d x => mLen (mev s.env x) sl d s k
 | .bin d op x y => mBin (mev s.env x) (mev s.env y) op d s k
 | .ia d z x i => mIa (mev s.env x) (mev s.env i) sl sz z d s k
 | .fa d off x => mFa (mev s.env x) sz off d s k
 | .box d z x => mBox (mev s.env x) sl sz z d s k
 | .ld d agg z x => mLd (mev s.env x) agg z d s k
 | .st z x y => mSt (mev s.env x) (mev s.env y) sl sz z s k
 | .mcl d f x y => mMcl (mev s.env x) (mev s.env y) P sz d f s k
 | _ => False
def mOps (P : Program) (sl : Bool) (sz : Nat) : List RO → MS → (MS → Prop) → Prop
 | [], s, k => k s
 | ⟨none, r⟩ :: rest, s, k => mOp P sl sz r s fun s => mOps P sl sz rest s k
 | ⟨some _, _⟩ :: _, _, _ => False
def MEnt (s s' : MS) : Prop := s'.bx = s.bx ∧ s'.ds = s.ds ∧ ∀ t, mlk s'.env t = .any ∨ mlk s'.env t = mlk s.env t
def mseq (f : MS → Prop) (K : Exit → MS → Prop) (e : Exit) (s : MS) : Prop :=
 match e with
 | .normal => f s
 | e => K e s
def mblk (id : Nat) (K : Exit → MS → Prop) (e : Exit) (s : MS) : Prop :=
 match e with
 | .exit i => if i = id then K .normal s else K (.exit i) s
 | e => K e s
def mCond (c : MV) (p q : Prop) : Prop :=
 match c with
 | .va (.bool t) => (t = true → p) ∧ (t = false → q)
 | _ => False
def mR (P : Program) (sl : Bool) (sz : Nat) : RC → MS → (Exit → MS → Prop) → Prop
 | .skip, s, K => K .normal s
 | .reg false ops, s, K => mOps P sl sz ops s (K .normal)
 | .seq a b, s, K => mR P sl sz a s (mseq (fun s => mR P sl sz b s K) K)
 | .cond x a b, s, K => mCond (mev s.env x) (mR P sl sz a s K) (mR P sl sz b s K)
 | .blk id c, s, K => mR P sl sz c s (mblk id K)
 | .loop c, s, K => ∃ I : Nat → MS → Prop, (∃ n s', MEnt s s' ∧ I n s') ∧ ∀ n s, I n s → mR P sl sz c s (mseq (fun s' => ∃ n' s'', MEnt s' s'' ∧ I n' s'' ∧ n' < n) K)
 | .exit id, s, K => K (.exit id) s
 | .ret, s, K => K .ret s
 | _, _, _ => False

structure MFix where
 v : Value
 F0 : List Nat
 w0 : World
 sz : Nat
 sl : Bool
 n : Nat
 len : Nat
structure MG where
 F : List Nat
 cs : List Value
 b : Nat
 off : Nat
 cap : Nat
 c : Array Value
 e : TypeId
variable {P : Program} {X : MFix}

variable {s : MS} {a : Act} {w : World} {G : MG} {o : Oper} {k : MS → Prop} {Q' : Exit → Act → World → Prop}

def mEnd (r : Nat) (bx : Bool) (ds' : List D) (n' : Int) (e : Exit) (s : MS) : Prop :=
 match e with
 | .normal => (bx = true → s.bx = true) ∧ s.ds = ds' ∧ mlk s.env r = .va (.int .i64 n')
 | .ret => (bx = true → s.bx = true) ∧ s.ds = ds' ∧ mlk s.env r = .va (.int .i64 n')
 | _ => False

section
variable {sl : Bool} {sz : Nat} {s : MS} {K : Exit → MS → Prop} {bx : Bool} {ds : List D} {env : List (Nat × MV)}
def kmR (P : Program) (sl : Bool) (sz : Nat) (c : RC) (K : Exit → MS → Prop) (s : MS) : Prop := mR P sl sz c s K
def kmO (P : Program) (sl : Bool) (sz : Nat) (l : List RO) (k : MS → Prop) (s : MS) : Prop := mOps P sl sz l s k
@[congr] theorem mR_cg {c : RC} {s s' : MS} (h : s = s') : mR P sl sz c s K = mR P sl sz c s' K := by rw [h]
@[congr] theorem kmR_cg {c : RC} {s s' : MS} (h : s = s') : kmR P sl sz c K s = kmR P sl sz c K s' := by rw [h]
@[congr] theorem mOps_cg {l : List RO} {s s' : MS} {k : MS → Prop} (h : s = s') : mOps P sl sz l s k = mOps P sl sz l s' k := by rw [h]
@[congr] theorem kmO_cg {l : List RO} {s s' : MS} {k : MS → Prop} (h : s = s') : kmO P sl sz l k s = kmO P sl sz l k s' := by rw [h]
@[congr] theorem mseq_cg {f : MS → Prop} {e e' : Exit} {s s' : MS} (h : e = e') (h' : s = s') : mseq f K e s = mseq f K e' s' := by rw [h, h']
@[congr] theorem mblk_cg {i : Nat} {e e' : Exit} {s s' : MS} (h : e = e') (h' : s = s') : mblk i K e s = mblk i K e' s' := by rw [h, h']
@[congr] theorem mCond_cg {c c' : MV} {p q : Prop} (h : c = c') : mCond c p q = mCond c' p q := by rw [h]
@[congr] theorem mLen_cg {x x' : MV} {d : Nat} {k : MS → Prop} (h : x = x') : mLen x sl d s k = mLen x' sl d s k := by rw [h]
@[congr] theorem mBin_cg {x x' y y' : MV} {op : BinOp} {d : Nat} {k : MS → Prop} (h : x = x') (h' : y = y') : mBin x y op d s k = mBin x' y' op d s k := by rw [h, h']
@[congr] theorem mIa_cg {x x' y y' : MV} {z d : Nat} {k : MS → Prop} (h : x = x') (h' : y = y') : mIa x y sl sz z d s k = mIa x' y' sl sz z d s k := by rw [h, h']
@[congr] theorem mFa_cg {x x' : MV} {off d : Nat} {k : MS → Prop} (h : x = x') : mFa x sz off d s k = mFa x' sz off d s k := by rw [h]
@[congr] theorem mBox_cg {x x' : MV} {z d : Nat} {k : MS → Prop} (h : x = x') : mBox x sl sz z d s k = mBox x' sl sz z d s k := by rw [h]
@[congr] theorem mLd_cg {x x' : MV} {agg : Bool} {z d : Nat} {k : MS → Prop} (h : x = x') : mLd x agg z d s k = mLd x' agg z d s k := by rw [h]
@[congr] theorem mSt_cg {x x' y y' : MV} {z : Nat} {k : MS → Prop} (h : x = x') (h' : y = y') : mSt x y sl sz z s k = mSt x' y' sl sz z s k := by rw [h, h']
@[congr] theorem mMcl_cg {x x' y y' : MV} {d f : Nat} {k : MS → Prop} (h : x = x') (h' : y = y') : mMcl x y P sz d f s k = mMcl x' y' P sz d f s k := by rw [h, h']
@[go_sem ↓] theorem mR_skip : mR P sl sz .skip s K = K .normal s := rfl
@[go_sem ↓] theorem mR_reg {ops : List RO} : mR P sl sz (.reg false ops) s K = mOps P sl sz ops s (K .normal) := rfl
@[go_sem ↓] theorem mR_seq {a b : RC} : mR P sl sz (.seq a b) s K = mR P sl sz a s (mseq (kmR P sl sz b K) K) := rfl
@[go_sem ↓] theorem mR_cond {x : Ax.X} {a b : RC} : mR P sl sz (.cond x a b) s K = mCond (mev s.env x) (mR P sl sz a s K) (mR P sl sz b s K) := rfl
@[go_sem ↓] theorem mR_blk {i : Nat} {c : RC} : mR P sl sz (.blk i c) s K = mR P sl sz c s (mblk i K) := rfl
@[go_sem ↓] theorem mR_exit {i : Nat} : mR P sl sz (.exit i) s K = K (.exit i) s := rfl
@[go_sem ↓] theorem mR_ret : mR P sl sz .ret s K = K .ret s := rfl
@[go_sem ↓] theorem kmR_ap {c : RC} : kmR P sl sz c K s = mR P sl sz c s K := rfl
@[go_sem ↓] theorem kmO_ap {l : List RO} {k : MS → Prop} : kmO P sl sz l k s = mOps P sl sz l s k := rfl
@[go_sem ↓] theorem mseq_normal {f : MS → Prop} : mseq f K .normal s = f s := rfl
@[go_sem ↓] theorem mseq_ret {f : MS → Prop} : mseq f K .ret s = K .ret s := rfl
@[go_sem ↓] theorem mseq_exit {f : MS → Prop} {i : Nat} : mseq f K (.exit i) s = K (.exit i) s := rfl
@[go_sem ↓] theorem mblk_normal {i : Nat} : mblk i K .normal s = K .normal s := rfl
@[go_sem ↓] theorem mblk_ret {i : Nat} : mblk i K .ret s = K .ret s := rfl
@[go_sem] theorem mblk_exit {i j : Nat} : mblk i K (.exit j) s = if j = i then K .normal s else K (.exit j) s := rfl
@[go_sem] theorem mCond_b {t : Bool} {p q : Prop} : mCond (.va (.bool t)) p q = ((t = true → p) ∧ (t = false → q)) := rfl
@[go_sem ↓] theorem mOps_nil {k : MS → Prop} : mOps P sl sz [] s k = k s := rfl
section
variable {l : List RO} {k : MS → Prop}
@[go_sem ↓] theorem mOps_mv {d : Nat} {x : Ax.X} : mOps P sl sz (⟨none, .mv d x⟩ :: l) s k = kmO P sl sz l k (s.set d (mev s.env x)) := rfl
@[go_sem ↓] theorem mOps_len {d : Nat} {x : Ax.X} : mOps P sl sz (⟨none, .len d x⟩ :: l) s k = mLen (mev s.env x) sl d s (kmO P sl sz l k) := rfl
@[go_sem ↓] theorem mOps_bin {d : Nat} {op : BinOp} {x y : Ax.X} : mOps P sl sz (⟨none, .bin d op x y⟩ :: l) s k = mBin (mev s.env x) (mev s.env y) op d s (kmO P sl sz l k) := rfl
@[go_sem ↓] theorem mOps_ia {d z : Nat} {x y : Ax.X} : mOps P sl sz (⟨none, .ia d z x y⟩ :: l) s k = mIa (mev s.env x) (mev s.env y) sl sz z d s (kmO P sl sz l k) := rfl
@[go_sem ↓] theorem mOps_fa {d off : Nat} {x : Ax.X} : mOps P sl sz (⟨none, .fa d off x⟩ :: l) s k = mFa (mev s.env x) sz off d s (kmO P sl sz l k) := rfl
@[go_sem ↓] theorem mOps_box {d z : Nat} {x : Ax.X} : mOps P sl sz (⟨none, .box d z x⟩ :: l) s k = mBox (mev s.env x) sl sz z d s (kmO P sl sz l k) := rfl
@[go_sem ↓] theorem mOps_ld {d z : Nat} {agg : Bool} {x : Ax.X} : mOps P sl sz (⟨none, .ld d agg z x⟩ :: l) s k = mLd (mev s.env x) agg z d s (kmO P sl sz l k) := rfl
@[go_sem ↓] theorem mOps_st {z : Nat} {x y : Ax.X} : mOps P sl sz (⟨none, .st z x y⟩ :: l) s k = mSt (mev s.env x) (mev s.env y) sl sz z s (kmO P sl sz l k) := rfl
@[go_sem ↓] theorem mOps_mcl {d f : Nat} {x y : Ax.X} : mOps P sl sz (⟨none, .mcl d f x y⟩ :: l) s k = mMcl (mev s.env x) (mev s.env y) P sz d f s (kmO P sl sz l k) := rfl
@[go_sem] theorem mLen_rt {d : Nat} : mLen .rt sl d s k = (sl = true ∧ k (s.set d (.va (.int .i64 s.ds.length)))) := rfl
@[go_sem] theorem mBin_va {a b : Value} {op : BinOp} {d : Nat} : mBin (.va a) (.va b) op d s k = binV op a b fun v => k (s.set d (.va v)) := rfl
@[go_sem] theorem mIa_rt {kd : IntKind} {n : Int} {z d : Nat} : mIa .rt (.va (.int kd n)) sl sz z d s k = ((sl = true ∧ s.bx = true ∧ z = sz ∧ 0 < sz ∧ 0 ≤ n ∧ n < s.ds.length) ∧ k (s.set d (.pt n.toNat 0))) := rfl
@[go_sem] theorem mFa_pt {i j off d : Nat} : mFa (.pt i j) sz off d s k = (j + off < sz ∧ k (s.set d (.pt i (j + off)))) := rfl
@[go_sem] theorem mBox_rt {z d : Nat} : mBox .rt sl sz z d s k = ((sl = false ∧ s.bx = false ∧ z = sz ∧ 0 < sz ∧ 0 < s.ds.length) ∧ k ⟨true, s.ds, (d, .pt 0 0) :: kilP s.env⟩) := rfl
@[go_sem] theorem mLd_pt {i j z d : Nat} : mLd (.pt i j) false z d s k = (z = 1 ∧ k (s.set d (.sb i j))) := by simp [mLd]
@[go_sem] theorem mLd_ptA {i j z d : Nat} : mLd (.pt i j) true z d s k = ((j + z ≤ (D.at s.ds i).size ∧ (D.at s.ds i).isAg = true) ∧ k (s.set d (.sg i j z))) := by simp [mLd]
@[go_sem] theorem mSt_pt {i j z : Nat} {y : Value} : mSt (.pt i j) (.va y) sl sz z s k = ((sl = true ∧ z = 1 ∧ y.oneCell' = true ∧ (D.sub (D.at s.ds i) j 1 false).isSc = true ∧ (j = 0 ∧ 1 = sz ∨ (D.at s.ds i).isAg = true)) ∧
   k ⟨s.bx, s.ds.set i (D.put sz (D.at s.ds i) j 1 (.sc y)), kil s.env⟩) := rfl
end
@[go_sem] theorem MS_set_mk {d : Nat} {v : MV} : (MS.mk bx ds env).set d v = ⟨bx, ds, (d, v) :: env⟩ := rfl
@[go_sem] theorem mlk_cons {k t : Nat} {v : MV} {r : List (Nat × MV)} : mlk ((k, v) :: r) t = if k = t then v else mlk r t := rfl
@[go_sem] theorem mev_t {n : Nat} : mev env (.t n) = mlk env n := rfl
@[go_sem] theorem mev_sc {x : Value} : mev env (.c (.sc x)) = .va x := rfl
@[go_sem] theorem mEnd_normal {r : Nat} {ds' : List D} {n' : Int} {b0 : Bool} : mEnd r b0 ds' n' .normal s = ((b0 = true → s.bx = true) ∧ s.ds = ds' ∧ mlk s.env r = .va (.int .i64 n')) := rfl
@[go_sem] theorem mEnd_ret {r : Nat} {ds' : List D} {n' : Int} {b0 : Bool} : mEnd r b0 ds' n' .ret s = ((b0 = true → s.bx = true) ∧ s.ds = ds' ∧ mlk s.env r = .va (.int .i64 n')) := rfl
attribute [go_sem] kil kilV kilP Value.oneCell'

end

end Go.Ax
namespace Go.Ax

variable {P : Program}

theorem Ent.refl (st : St) : Ent st st := fun _ _ _ _ _ _ h => h
theorem Ent.trans {a b c : St} (h : Ent a b) (k : Ent b c) : Ent a c := fun _ _ _ _ _ _ x => k _ _ _ _ _ _ (h _ _ _ _ _ _ x)

def subEnv (e : List (Nat × AV)) : List (Nat × AV) → Prop
 | [] => True
 | (k, v) :: r => lk e k = v ∧ subEnv e r

theorem subEnv_lk {e : List (Nat × AV)} : ∀ {e' : List (Nat × AV)}, subEnv e e' → ∀ t, lk e' t = .any ∨ lk e' t = lk e t
 | [], _, t => .inl rfl
 | (k, v) :: r, h, t => by
  simp only [lk]
  split
  ·next hk => subst hk; exact .inr h.1.symm
  ·exact subEnv_lk h.2 t

theorem Ent.env {n : Nat} {e e' : List (Nat × AV)} {us : List (Nat × U)} (h : subEnv e e') : Ent ⟨n, e, us⟩ ⟨n, e', us⟩ := by
 intro n0 S0 M0 w0 a w hs
 obtain ⟨g, hu, hv⟩ := hs.gh
 refine ⟨hs.ms, hs.dfr, hs.tm, hs.base, hs.os, hs.tape, hs.output, hs.size, hs.old, g, hu, fun t => ?_⟩
 rcases subEnv_lk h t with h | h
 ·simp only
  rw [h]
  simp [VRep]
 ·simp only
  rw [h]
  exact hv t

theorem Ent.del (st : St) (k : Nat) : Ent st (st.del k) := by
 intro n0 S0 M0 w0 a w hs
 obtain ⟨g, hu, hv⟩ := hs.gh
 obtain ⟨hU, hK⟩ := hu.del k
 exact ⟨hs.ms, hs.dfr, hs.tm, hs.base, hs.os, hs.tape, hs.output, hs.size, hs.old, _, hU, fun t => killE_rep (fun av v hf hr => VRep.keepR hK hf hr) (hv t)⟩

theorem Ent.perm {n : Nat} {e : List (Nat × AV)} {us us' : List (Nat × U)} (h : us'.Perm us) : Ent ⟨n, e, us⟩ ⟨n, e, us'⟩ := by
 intro n0 S0 M0 w0 a w hs
 exact hs.eqv rfl (fun _ => rfl) h

theorem vc_loop {c : RC} {st : St} {K : Exit → St → Prop} {α : Type} (F : α → St) (J : α → Prop) (μ : α → Nat) (x0 : α) (h0 : Ent st (F x0)) (hJ : J x0)
  (h : ∀ x, J x → vcR P c (F x) (kseq (fun s => ∃ y, J y ∧ μ y < μ x ∧ Ent s (F y)) K)) : vcR P (.loop c) st K := by
 refine ⟨fun n s => ∃ x, J x ∧ μ x = n ∧ s = F x, ⟨_, _, h0, x0, hJ, rfl, rfl⟩, ?_⟩
 rintro n s ⟨x, hx, rfl, rfl⟩
 have := h x hx
 have e : (kseq (fun s => ∃ y, J y ∧ μ y < μ x ∧ Ent s (F y)) K) = (kseq (fun s' => ∃ n' s'', Ent s' s'' ∧ (∃ x, J x ∧ μ x = n' ∧ s'' = F x) ∧ n' < μ x) K) := by
  congr 1
  funext s
  apply propext
  constructor
  ·rintro ⟨y, h1, h2, h3⟩
   exact ⟨_, _, h3, ⟨y, h1, rfl, rfl⟩, h2⟩
  ·rintro ⟨_, _, h3, ⟨y, h1, rfl, rfl⟩, h2⟩
   exact ⟨y, h1, h2, h3⟩
 rw [e] at this
 exact this

theorem D.LeA.refl (d : D) : d.LeA d := ⟨fun _ F _ h => ⟨F, h, fun _ hb => hb⟩, fun _ h => h⟩
theorem D.LeA.eq {d e : D} (h : d = e) : d.LeA e := h ▸ D.LeA.refl d

theorem D.LeA.sub {d e : D} {j sz : Nat} (hj : j + sz ≤ d.size) (hd : d.isAg = true) (h0 : 0 < sz) (he : D.sub d j sz true = e) : D.LeA (.pt d j) (.pt e 0) := by
 refine ⟨fun h F cs hr => ?_, fun v hv => hv⟩
 simp only [Rep] at hr
 obtain ⟨b, off, c, el, fr, F', rfl, rfl, r1, r2, r3, r4⟩ := hr
 obtain ⟨F1, F2, F3, c1, c2, c3, g1, g2, g3, g4, g5, g6⟩ := r4.sub (agg := true) hj (fun _ => hd) (by simp)
 subst he
 have hs : (D.sub d j sz true).size = sz := by rw [← g5.length, g4]
 refine ⟨b :: F2, ?_, ?_⟩
 ·simp only [Rep]
  refine ⟨b, off + j, c, el, fr, F2, by simp, rfl, by omega, r2, by omega, ?_⟩
  rw [hs]
  have e1 : (c.toList.drop (off + j)).take sz = c2 := by
   have h1 : ((c.toList.drop off).take d.size).drop j = c2 ++ c3 := by rw [g2, ← g3]; simp
   have h2 : (((c.toList.drop off).take d.size).drop j).take sz = c2 := by rw [h1, ← g4]; simp
   rw [← h2, List.drop_take, List.drop_drop, List.take_take, Nat.min_eq_left (by omega)]
  rw [e1]
  exact g5
 ·intro x hx
  rcases List.mem_cons.1 hx with rfl | hx
  ·simp
  ·rw [g1]; simp [hx]
theorem D.LeL.refl : ∀ (ds : List D), D.LeL ds ds
 | [] => trivial
 | d :: ds => ⟨D.LeA.refl d, D.LeL.refl ds⟩

theorem callQ_self {d : Option Nat} {f : Nat} {args : List AV} {un : Nat → Option U} {k : KQ} {ds : List D} {r : Ret} (ha : argsOf un args = some ds) (h : AF P f ds r)
  (hk : k (bindR (d.getD 0) (shA args ds) r).1 (bindR (d.getD 0) (shA args ds) r).2) : callQ P d f args un k :=
 .inl ⟨ds, ds, r, ha, D.LeL.refl ds, h, hk⟩


theorem callP_self {d : Option Nat} {f : Nat} {args : List AV} {un : Nat → Option U} {k : KQ} {t : Option Nat} {kk : Int} {B C : AV} (ha : args = [.im t (.sc (.int .i64 kk)), B, C]) (h : AFP P f) (hB : (AV.aggV un B && itemOk un 3 B) = true) (hC : (AV.aggV un C && itemOk un 3 C) = true)
  (hk : k (.sg [.im none (.sc (.int .i64 kk)), .im none (.sc (.int .i64 0)), .vb (d.getD 0) 2]) [(d.getD 0, .bx 3 [B, C])]) (hlow : d.getD 0 < 3000000000 := by decide) : callQ P d f args un k := .inr ⟨hlow, t, kk, B, C, ha, h, hB, hC, hk⟩

theorem wcl_self {d : Option Nat} {f : Nat} {args : List AV} {st : St} {kk : St → Prop} (k1 k2 : List Nat) {us us' : List U} {as : List AV} {r : Ret} (h1 : nodupB (k1 ++ k2) = true) (h2 : wUs (k1 ++ k2) st.unit (k1 ++ k2) = some us) (h3 : argsW (k1 ++ k2) st.unit args = some as)
  (hA : AFW P f us as us' r) (hl : us'.length = k1.length) (h4 : wOut k1.length (shWL (k1 ++ k2) args && shUs (k1 ++ k2) st.unit (k1 ++ k2)) us us') (h5 : kq kk (st.updW k1 k2 us') d (bindR (d.getD 0) false r).1 (bindR (d.getD 0) false r).2) : wclK P d f args st kk := ⟨k1, k2, us, as, us', r, h1, h2, h3, hA, hl, h4, h5⟩
theorem wrap_i64 {x : Int} (h1 : -9223372036854775808 ≤ x) (h2 : x ≤ 9223372036854775807) : IntKind.i64.wrap x = x := by
 simp [IntKind.wrap, IntKind.bits, IntKind.signed]
 omega

theorem at_map {α : Type} {f : α → D} {l : List α} {i : Nat} (h : i < l.length) : D.at (l.map f) i = f l[i] := by
 simp [D.at, h]

@[go_sem] theorem none_beq {k : Nat} : ((none : Option Nat) == some k) = false := rfl
@[go_sem] theorem some_beq {i k : Nat} : (some i == some k) = (i == k) := rfl
attribute [go_sem] Bool.false_eq_true

@[go_sem] theorem nn_beq_f : ((some false : Option Bool) == some true) = false := rfl
@[go_sem] theorem nn_beq_t : ((some true : Option Bool) == some true) = true := rfl
@[go_sem] theorem nn_beq_n : ((none : Option Bool) == some true) = false := rfl
attribute [go_sem] Bool.false_and Bool.true_and Bool.and_false Bool.and_true

def freeE : List (Nat × AV) → Bool
 | [] => true
 | (_, .im none _) :: r => freeE r
 | _ => false
theorem freeE_lk : ∀ {e : List (Nat × AV)}, freeE e = true → ∀ t, lk e t = .any ∨ ∃ d, lk e t = .im none d
 | [], _, t => .inl rfl
 | (k, .im none d) :: r, h, t => by
  simp only [lk]
  split
  ·exact .inr ⟨d, rfl⟩
  ·exact freeE_lk (by simpa [freeE] using h) t

theorem Ent.clear {n : Nat} {e e' : List (Nat × AV)} {us : List (Nat × U)} (h : subEnv e e') (hf : freeE e' = true) : Ent ⟨n, e, us⟩ ⟨n, e', []⟩ := by
 intro n0 S0 M0 w0 a w hs
 obtain ⟨g, hu, hv⟩ := hs.gh
 refine ⟨hs.ms, hs.dfr, hs.tm, hs.base, hs.os, hs.tape, hs.output, hs.size, hs.old, { g with φ := fun _ => [] }, ⟨by simp, by simp [fp], by simp [fp], by simp [fp], fun _ _ => rfl, fun b hb => ⟨(hu.sh b hb).1, (hu.sh b hb).2.1, by simp [fp]⟩, by simp, by simp [fp], by intro k v _ h; simp at h⟩, fun t => ?_⟩
 simp only
 rcases freeE_lk hf t with h1 | ⟨d, h1⟩
 ·rw [h1]
  simp [VRep]
 ·have h2 : lk e t = .im none d := by
   rcases subEnv_lk h t with h2 | h2
   ·rw [h1] at h2; cases h2
   ·rw [← h2, h1]
  have := hv t
  simp only [h2] at this
  rw [h1]
  simp only [VRep] at this ⊢
  obtain ⟨F, r1, r2, r3⟩ := this
  refine ⟨F, r1, r2, fun b hb => ?_⟩
  rcases r3 b hb with h | ⟨k, hk, _⟩
  ·exact .inl h
  ·cases hk

theorem bdL_mem : ∀ {ds : List D}, D.bdL ds → ∀ d ∈ ds, d.bd
 | [], _, d, h => by cases h
 | x :: ds, hb, d, h => by
  simp only [D.bdL] at hb
  rcases List.mem_cons.1 h with rfl | h
  ·exact hb.1
  ·exact bdL_mem hb.2 d h

end Go.Ax
namespace Go.Ax
set_option linter.unusedSimpArgs false

def cEqB : RC :=
 (.seq
  (.reg false [⟨none, .mv 4 (.c (.sc (.bool false)))⟩])
  ((.seq
   ((.seq
    (.reg false [⟨none, .mv 6 (.t 0)⟩,
      ⟨none, .len 7 (.t 6)⟩,
      ⟨none, .mv 8 (.t 1)⟩,
      ⟨none, .len 9 (.t 8)⟩,
      ⟨none, .bin 10 .neq (.t 7) (.t 9)⟩])
    (.cond (.t 10)
     ((.seq
      (.reg false [⟨none, .mv 4 (.c (.sc (.bool false)))⟩])
      (.ret)))
     (.skip))))
   ((.seq
    ((.seq
     (.reg false [⟨none, .mv 5 (.c (.sc (.int .i64 0)))⟩])
     (.blk 0
      (.loop
       ((.seq
        ((.seq
         (.reg false [⟨none, .mv 11 (.t 5)⟩,
           ⟨none, .mv 12 (.t 0)⟩,
           ⟨none, .len 13 (.t 12)⟩,
           ⟨none, .bin 14 .lss (.t 11) (.t 13)⟩])
         (.cond (.t 14)
          (.skip)
          (.exit 0))))
        ((.seq
         (.blk 1
          ((.seq
           (.reg true [⟨none, .mv 17 (.t 0)⟩,
             ⟨none, .mv 18 (.t 5)⟩,
             ⟨none, .ia 19 1 (.t 17) (.t 18)⟩,
             ⟨none, .ld 20 false 1 (.t 19)⟩,
             ⟨none, .mv 21 (.t 1)⟩,
             ⟨none, .mv 22 (.t 5)⟩,
             ⟨none, .ia 23 1 (.t 21) (.t 22)⟩,
             ⟨none, .ld 24 false 1 (.t 23)⟩,
             ⟨none, .beq 25 true (.t 20) (.t 24)⟩])
           (.cond (.t 25)
            ((.seq
             (.reg false [⟨none, .mv 4 (.c (.sc (.bool false)))⟩])
             (.ret)))
            (.skip)))))
         (.reg false [⟨none, .mv 15 (.t 5)⟩,
           ⟨none, .bin 16 .add (.t 15) (.c (.sc (.int .i64 1)))⟩,
           ⟨none, .mv 5 (.t 16)⟩])))))))))
    ((.seq
     (.reg false [⟨none, .mv 4 (.c (.sc (.bool true)))⟩])
     (.ret))))))))

def cEqC (f sz : Nat) (agg : Bool) : RC :=
 (.seq
  (.reg false [⟨none, .mv 4 (.c (.sc (.bool false)))⟩])
  ((.seq
   ((.seq
    (.reg false [⟨none, .mv 6 (.t 0)⟩,
      ⟨none, .len 7 (.t 6)⟩,
      ⟨none, .mv 8 (.t 1)⟩,
      ⟨none, .len 9 (.t 8)⟩,
      ⟨none, .bin 10 .neq (.t 7) (.t 9)⟩])
    (.cond (.t 10)
     ((.seq
      (.reg false [⟨none, .mv 4 (.c (.sc (.bool false)))⟩])
      (.ret)))
     (.skip))))
   ((.seq
    ((.seq
     (.reg false [⟨none, .mv 5 (.c (.sc (.int .i64 0)))⟩])
     (.blk 0
      (.loop
       ((.seq
        ((.seq
         (.reg false [⟨none, .mv 11 (.t 5)⟩,
           ⟨none, .mv 12 (.t 0)⟩,
           ⟨none, .len 13 (.t 12)⟩,
           ⟨none, .bin 14 .lss (.t 11) (.t 13)⟩])
         (.cond (.t 14)
          (.skip)
          (.exit 0))))
        ((.seq
         (.blk 1
          ((.seq
           (.reg true [⟨none, .mv 17 (.t 0)⟩,
             ⟨none, .mv 18 (.t 5)⟩,
             ⟨none, .ia 19 sz (.t 17) (.t 18)⟩,
             ⟨none, .ld 20 agg sz (.t 19)⟩,
             ⟨none, .mv 21 (.t 1)⟩,
             ⟨none, .mv 22 (.t 5)⟩,
             ⟨none, .ia 23 sz (.t 21) (.t 22)⟩,
             ⟨none, .ld 24 agg sz (.t 23)⟩,
             ⟨none, .call (some 25) f [(.t 20), (.t 24)]⟩,
             ⟨none, .un 26 .not (.t 25)⟩])
           (.cond (.t 26)
            ((.seq
             (.reg false [⟨none, .mv 4 (.c (.sc (.bool false)))⟩])
             (.ret)))
            (.skip)))))
         (.reg false [⟨none, .mv 15 (.t 5)⟩,
           ⟨none, .bin 16 .add (.t 15) (.c (.sc (.int .i64 1)))⟩,
           ⟨none, .mv 5 (.t 16)⟩])))))))))
    ((.seq
     (.reg false [⟨none, .mv 4 (.c (.sc (.bool true)))⟩])
     (.ret))))))))

abbrev SL (α : Type) := Option Bool × List α
def eI (n : Int) : D := .sc (.int .i64 n)
def eB (b : Bool) : D := .sc (.bool b)
def eS {α : Type} (sz : Nat) (f : α → D) (s : SL α) : D := .ls s.1 sz (s.2.map f)

structure Enc {α : Type} (f : α → D) (sz : Nat) (agg : Bool) : Prop where
 pos : 0 < sz
 size : ∀ x, (f x).size = sz
 isAg : ∀ x, (f x).isAg = agg
 sub : ∀ x, D.sub (f x) 0 sz agg = f x

theorem len_of_bd {nn : Option Bool} {sz : Nat} {ds : List D} {r : List D} (h : D.bdL (.ls nn sz ds :: r)) : ds.length ≤ maxEl := by simp only [D.bdL, D.bd] at h; exact h.1.1

def eqL {α : Type} (q : α → α → Bool) : List α → List α → Bool
 | [], [] => true
 | x :: a, y :: b => q x y && eqL q a b
 | _, _ => false
theorem eqL_len {α : Type} {q : α → α → Bool} : ∀ {a b : List α}, a.length ≠ b.length → eqL q a b = false
 | [], [], h => (h rfl).elim
 | [], _ :: _, _ => rfl
 | _ :: _, [], _ => rfl
 | x :: a, y :: b, h => by simp only [eqL, eqL_len (a := a) (b := b) (by simpa using h), bJ]

section
variable {P : Program} (hm : P.follows .mixedOrders = true)
include hm

theorem af_eqC {α : Type} {f : α → D} {sz : Nat} {agg : Bool} (e : Enc f sz agg) {g h : Nat} (hr : resF P g = some (27, cEqC h sz agg, [.t 4])) (q : α → α → Bool) (a b : SL α)
  (hc : ∀ x ∈ a.2, ∀ y ∈ b.2, AF P h [f x, f y] (.own (eB (q x y)))) :
  AF P g [eS sz f a, eS sz f b] (.own (eB (eqL q a.2 b.2))) := by
 refine af_of_res hr hm rfl fun hb => ?_
 have hl := len_of_bd hb
 have hl2 := len_of_bd hb.2
 unfold maxEl at hl hl2
 simp only [lM] at hl hl2
 have hp := e.pos
 simp -implicitDefEqProofs only [cEqC, eS, go_sem, eB, ↓reduceIte, Nat.reduceEqDiff, Nat.reduceAdd, lM]
 refine ⟨fun h => D.Le.sc_eq ?_, fun h => ?_⟩
 ·rw [eqL_len (by simp at h; omega)]
 have hlen : a.2.length = b.2.length := by simp at h; omega
 refine vc_loop (α := Nat) (fun i => ⟨27, [(0, .im none (.ls a.1 sz (a.2.map f))), (1, .im none (.ls b.1 sz (b.2.map f))), (5, .im none (.sc (.int .i64 i)))], []⟩)
  (fun i => i ≤ a.2.length ∧ eqL q (a.2.drop i) (b.2.drop i) = eqL q a.2 b.2) (fun i => a.2.length - i) 0
  (Ent.env (by simp only [subEnv, go_sem, ↓reduceIte, Nat.reduceEqDiff]; simp)) ⟨by simp, by simp⟩ ?_
 rintro i ⟨j1, j4⟩
 by_cases hi : i < a.2.length
 ·have hi2 : i < b.2.length := by omega
  have e1 := at_map (f := f) hi
  have e2 := at_map (f := f) hi2
  have a1 := hc a.2[i] (List.getElem_mem _) b.2[i] (List.getElem_mem _)
  simp -implicitDefEqProofs only [go_sem, ↓reduceIte, Nat.reduceEqDiff, e1, e2, e.sub, e.size, e.isAg, hp, hi2, iL, hi, lM, iN, and_self, true_and, and_true, not_true_eq_false, false_implies, true_implies, Nat.zero_add, Nat.le_refl]
  refine ⟨id, id, callQ_self ?_ a1 ?_⟩
  ·exact rfl
  simp -implicitDefEqProofs only [go_sem, eB, ↓reduceIte, Nat.reduceEqDiff]
  rw [List.drop_eq_getElem_cons hi, List.drop_eq_getElem_cons hi2] at j4
  simp only [eqL] at j4
  refine ⟨fun h => D.Le.sc_eq ?_, fun h => ?_⟩
  ·rw [← j4]
   simp at h
   simp [h]
  ·rw [wrap_i64 (by omega) (by omega)]
   refine ⟨i + 1, ⟨by omega, ?_⟩, by omega, Ent.env (by simp only [subEnv, go_sem, ↓reduceIte, Nat.reduceEqDiff]; simp)⟩
   rw [← j4]
   simp at h
   simp [h]
 ·simp -implicitDefEqProofs only [go_sem, ↓reduceIte, Nat.reduceEqDiff, iL, hi, lM, iN, true_and, and_true, not_false_eq_true, false_implies, true_implies, Nat.zero_add]
  refine D.Le.sc_eq ?_
  rw [← j4, List.drop_eq_nil_of_le (by omega), List.drop_eq_nil_of_le (by omega)]
  rfl

theorem af_eqB {g : Nat} (hr : resF P g = some (26, cEqB, [.t 4])) (a b : SL Bool) :
  AF P g [eS 1 eB a, eS 1 eB b] (.own (eB (eqL (fun x y => x == y) a.2 b.2))) := by
 refine af_of_res hr hm rfl fun hb => ?_
 have hl := len_of_bd hb
 have hl2 := len_of_bd hb.2
 unfold maxEl at hl hl2
 simp only [lM] at hl hl2
 simp -implicitDefEqProofs only [cEqB, eS, go_sem, eB, ↓reduceIte, Nat.reduceEqDiff, Nat.reduceAdd, lM]
 refine ⟨fun h => D.Le.sc_eq ?_, fun h => ?_⟩
 ·rw [eqL_len (by simp at h; omega)]
 have hlen : a.2.length = b.2.length := by simp at h; omega
 refine vc_loop (α := Nat) (fun i => ⟨26, [(0, .im none (.ls a.1 1 (a.2.map eB))), (1, .im none (.ls b.1 1 (b.2.map eB))), (5, .im none (.sc (.int .i64 i)))], []⟩)
  (fun i => i ≤ a.2.length ∧ eqL (fun x y => x == y) (a.2.drop i) (b.2.drop i) = eqL (fun x y => x == y) a.2 b.2) (fun i => a.2.length - i) 0
  (Ent.env (by simp only [subEnv, go_sem, ↓reduceIte, Nat.reduceEqDiff]; simp)) ⟨by simp, by simp⟩ ?_
 rintro i ⟨j1, j4⟩
 by_cases hi : i < a.2.length
 ·have hi2 : i < b.2.length := by omega
  have e1 := at_map (f := eB) hi
  have e2 := at_map (f := eB) hi2
  simp -implicitDefEqProofs only [go_sem, eB, ↓reduceIte, Nat.reduceEqDiff, e1, e2, hi2, iL, hi, lM, iN, Nat.zero_lt_one, and_self, true_and, and_true, not_true_eq_false, false_implies, true_implies, Nat.zero_add, Nat.le_refl]
  rw [List.drop_eq_getElem_cons hi, List.drop_eq_getElem_cons hi2] at j4
  simp only [eqL] at j4
  refine ⟨fun h => D.Le.sc_eq ?_, fun h => ?_⟩
  ·rw [← j4]
   simp at h
   simp [h]
  ·rw [wrap_i64 (by omega) (by omega)]
   refine ⟨i + 1, ⟨by omega, ?_⟩, by omega, Ent.env (by simp only [subEnv, go_sem, ↓reduceIte, Nat.reduceEqDiff]; simp)⟩
   rw [← j4]
   simp at h
   simp [h]
 ·simp -implicitDefEqProofs only [go_sem, ↓reduceIte, Nat.reduceEqDiff, iL, hi, lM, iN, Nat.zero_lt_one, true_and, and_true, not_false_eq_true, false_implies, true_implies, Nat.zero_add]
  refine D.Le.sc_eq ?_
  rw [← j4, List.drop_eq_nil_of_le (by omega), List.drop_eq_nil_of_le (by omega)]
  rfl

end
end Go.Ax
namespace Go.Ax
set_option linter.unusedSimpArgs false

section
variable {P : Program} (hm : P.follows .mixedOrders = true)

theorem encS {α : Type} (f : α → D) (sz : Nat) : Enc (eS sz f) 1 false := ⟨by omega, fun _ => rfl, fun _ => rfl, fun _ => rfl⟩
end

def memN : List Nat → Nat → Bool
 | [], _ => false
 | a :: l, k => if a = k then true else memN l k
@[go_sem] theorem memN_nil {k : Nat} : memN [] k = false := rfl
@[go_sem] theorem memN_cons {a k : Nat} {l : List Nat} : memN (a :: l) k = if a = k then true else memN l k := rfl

def keep (ks : List Nat) : List (Nat × AV) → List (Nat × AV)
 | [] => []
 | (k, v) :: r => if memN ks k = true then keep ks r else (k, v) :: keep (k :: ks) r
@[go_sem] theorem keep_nil {ks : List Nat} : keep ks [] = [] := rfl
@[go_sem] theorem keep_cons {ks : List Nat} {k : Nat} {v : AV} {r : List (Nat × AV)} : keep ks ((k, v) :: r) = if memN ks k = true then keep ks r else (k, v) :: keep (k :: ks) r := rfl
theorem memN_iff {k : Nat} : ∀ {l : List Nat}, memN l k = true ↔ k ∈ l
 | [] => by simp [memN]
 | a :: l => by
  simp only [memN]
  split
  ·next h => simp [h]
  ·next h => rw [memN_iff]; simp [Ne.symm h]
theorem keep_sub {e : List (Nat × AV)} : ∀ {ks : List Nat} {r : List (Nat × AV)}, (∀ t, t ∉ ks → lk e t = lk r t) → subEnv e (keep ks r)
 | _, [], _ => trivial
 | ks, (k, v) :: r, h => by
  simp only [keep]
  split
  ·next hk =>
   refine keep_sub fun t ht => ?_
   rw [h t ht]
   have : k ≠ t := by rintro rfl; exact ht (memN_iff.1 hk)
   simp [lk, this]
  ·next hk =>
   refine ⟨by rw [h k (fun hm => hk (memN_iff.2 hm))]; simp [lk], keep_sub fun t ht => ?_⟩
   simp only [List.mem_cons, not_or] at ht
   rw [h t ht.2]
   simp [lk, Ne.symm ht.1]
theorem subEnv_append {e : List (Nat × AV)} : ∀ {a b : List (Nat × AV)}, subEnv e a → subEnv e b → subEnv e (a ++ b)
 | [], _, _, h => h
 | (_, _) :: _, _, h1, h2 => ⟨h1.1, subEnv_append h1.2 h2⟩

theorem vc_on {P : Program} {c : RC} {K : Exit → St → Prop} {α : Type} {n : Nat} {env : List (Nat × AV)} {us : List (Nat × U)} (ks : List Nat) (upd : α → List (Nat × AV)) (J : α → Prop) (μ : α → Nat) (x0 : α)
  (h0 : subEnv env (upd x0)) (hJ : J x0)
  (h : ∀ x, J x → vcR P c ⟨n, upd x ++ keep ks env, us⟩ (kseq (fun s => ∃ y, J y ∧ μ y < μ x ∧ Ent s ⟨n, upd y ++ keep ks env, us⟩) K)) : vcR P (.loop c) ⟨n, env, us⟩ K :=
 vc_loop (fun x => ⟨n, upd x ++ keep ks env, us⟩) J μ x0 (Ent.env (subEnv_append h0 (keep_sub fun _ _ => rfl))) hJ h

theorem Ent.env_us {n : Nat} {e e' : List (Nat × AV)} {us us' : List (Nat × U)} (hu : us = us') (h : subEnv e e') : Ent ⟨n, e, us⟩ ⟨n, e', us'⟩ := hu ▸ Ent.env h

theorem all_take_succ {α : Type} {p : α → Bool} {l : List α} {i : Nat} (hi : i < l.length) (h : (l.take i).all p = true) (hx : p l[i] = true) : (l.take (i + 1)).all p = true := by
 rw [List.take_succ_eq_append_getElem hi, List.all_append, h]
 simp [hx]
theorem all_of_take {α : Type} {p : α → Bool} {l : List α} {i : Nat} (hi : ¬ i < l.length) (h : (l.take i).all p = true) : l.all p = true := by
 rwa [List.take_of_length_le (by omega)] at h
theorem all_fail {α : Type} {p : α → Bool} {l : List α} {i : Nat} (hi : i < l.length) (hx : p l[i] = false) : l.all p = false :=
 List.all_eq_false.2 ⟨l[i], List.getElem_mem hi, by simp [hx]⟩
theorem bd_ls {nn : Option Bool} {sz : Nat} {ds : List D} (h : D.bd (.ls nn sz ds)) : ds.length ≤ 9223372036854775807 := by simp only [D.bd, maxEl] at h; exact h.1

end Go.Ax
namespace Go.Ax
set_option linter.unusedSimpArgs false

theorem eqL_step {α : Type} {q : α → α → Bool} {l m : List α} {i : Nat} {x y : α} {r : Bool} (j : (q x y && eqL q (l.drop (i + 1)) (m.drop (i + 1))) = r) (h : q x y = true) : eqL q (l.drop (i + 1)) (m.drop (i + 1)) = r := by
 rw [← j, h, bI]
section
variable {P : Program} (hm : P.follows .mixedOrders = true)
include hm
end
end Go.Ax
namespace Go.Ax
open Go.ChangeShapes Go.WideShapes Go.RowKit

section
variable {P : Program}

def Rd (P : Program) (n : Nat) (t : TypeId) {α : Type} (f : α → D) (ok : α → Prop) : Prop :=
 ∀ (H : Type) (enc : TypeId × Value → H) (w : World) (cs : List Value) (x : DataW H × List MemPlace),
  DataW.trod enc P w 0 (fun _ => true) true n t cs = some x → ∃ a F, Rep w.heap (f a) F cs ∧ ok a

theorem rd_zero {t : TypeId} {α : Type} {f : α → D} {ok : α → Prop} : Rd P 0 t f ok := by
 intro H enc w cs x h
 simp [DataW.trod] at h

theorem rd_map {n : Nat} {t : TypeId} {α β : Type} {f : α → D} {ok : α → Prop} {f' : β → D} {ok' : β → Prop} (g : α → β) (h1 : ∀ a, f' (g a) = f a) (h2 : ∀ a, ok a → ok' (g a)) (h : Rd P n t f ok) : Rd P n t f' ok' := by
 intro H enc w cs x hx
 obtain ⟨a, F, r, o⟩ := h _ enc w cs x hx
 exact ⟨g a, F, by rw [h1]; exact r, h2 a o⟩

theorem rd_int {n : Nat} {t : TypeId} {k : IntKind} (ht : P.underlying t = some (.int k)) : Rd P n t (fun m : Int => .sc (.int k m)) (fun m => (Lit.int k m).wf = true) := by
 intro H enc w cs x h
 obtain ⟨m, rfl, _, hw⟩ := DataW.trod_int ht h
 exact ⟨m, [], by simp [Rep, Value.oneCell'], hw⟩

theorem add_block (a : Addr) (i : Nat) : (a.add i).block = a.block := by
 unfold Addr.add
 split <;> rfl

theorem add_off (a : Addr) (i : Nat) : (a.add i).off = a.off + i := by
 unfold Addr.add
 split <;> simp_all

theorem cells_at {w : World} {a : Addr} {n : Nat} {cs : List Value} (h : w.cells? 0 a n = some cs) (hn : 0 < n) :
  ∃ c e fr, w.heap[a.block]? = some (.cells c e fr) ∧ a.spot = none ∧ a.off + n ≤ c.size ∧ cs = (c.toList.drop a.off).take n := by
 unfold World.cells? at h
 rw [if_pos (Nat.zero_le _)] at h
 have hl : cs.length = n := by simpa using mapM_len h
 have hg : ∀ i, i < n → w.cell? (a.add i) = cs[i]? := by
  intro i hi
  obtain ⟨b, h1, h2⟩ := mapM_get h i i (by simp [hi])
  rw [h1, h2]
 have h0 := hg 0 hn
 rw [List.getElem?_eq_getElem (by omega)] at h0
 cases hb : w.heap[a.block]? with
 | none => simp [World.cell?, add_block, hb] at h0
 | some o =>
  cases o with
  | cells c e fr =>
   have hsp : a.spot = none := by
    cases hs : a.spot with
    | none => rfl
    | some s => simp [World.cell?, Addr.add, hb, hs] at h0
   have hc : ∀ i, i < n → c[a.off + i]? = cs[i]? := by
    intro i hi
    have := hg i hi
    have hs2 : (a.add i).spot.isSome = false := by
     cases hs2 : (a.add i).spot.isSome with
     | false => rfl
     | true =>
      rw [List.getElem?_eq_getElem (by omega)] at this
      simp [World.cell?, add_block, hb, hs2] at this
    simpa [World.cell?, add_block, add_off, hb, hs2] using this
   have hlast := hc (n - 1) (by omega)
   rw [List.getElem?_eq_getElem (by omega)] at hlast
   have hle := (Array.getElem?_eq_some_iff.1 hlast).1
   refine ⟨c, e, fr, rfl, hsp, by omega, ?_⟩
   apply List.ext_getElem?
   intro i
   by_cases hi : i < n
   ·rw [← hc i hi, List.getElem?_take_of_lt hi, List.getElem?_drop, Array.getElem?_toList]
   ·rw [List.getElem?_eq_none (by omega), List.getElem?_eq_none (by simp; omega)]
  | _ => simp [World.cell?, add_block, hb] at h0

theorem repL_rows {h : Heap} {α : Type} {f : α → D} {ok : α → Prop} {c : List Value} {sz : Nat} :
  ∀ (m o : Nat), (∀ i, i < m → ∃ a F, Rep h (f a) F ((c.drop (o + i * sz)).take sz) ∧ ok a) →
   ∃ (as : List α) (F : List Nat), as.length = m ∧ RepL h (as.map f) F ((c.drop o).take (m * sz)) ∧ ∀ a ∈ as, ok a
 | 0, o, _ => ⟨[], [], rfl, by simp [RepL], by simp⟩
 | m + 1, o, hr => by
  obtain ⟨a, F, h1, h2⟩ := hr 0 (by omega)
  obtain ⟨as, F', h3, h4, h5⟩ := repL_rows m (o + sz) fun i hi => by
   have := hr (i + 1) (by omega)
   rw [show o + (i + 1) * sz = o + sz + i * sz by rw [Nat.add_mul]; omega] at this
   exact this
  refine ⟨a :: as, F ++ F', by simp [h3], ?_, by simp; exact ⟨h2, h5⟩⟩
  simp only [lC, RepL]
  refine ⟨F, F', _, _, rfl, ?_, by simpa using h1, h4⟩
  rw [show (m + 1) * sz = sz + m * sz by rw [Nat.add_mul]; omega, List.take_add, List.drop_drop]

theorem rd_slice {n : Nat} {t e : TypeId} {sz : Nat} {α : Type} {f : α → D} {ok : α → Prop} (ht : P.underlying t = some (.slice e)) (hs : P.cellsOf e = sz) (h0 : 0 < sz) (hf : ∀ a, (f a).size = sz)
  (h : Rd P n e f ok) : Rd P (n + 1) t (eS sz f) (fun s => ((s.1 = some true → s.2 = []) ∧ s.1.isSome = true) ∧ s.2.length ≤ maxEl ∧ ∀ a ∈ s.2, ok a) := by
 intro H enc w cs x hx
 rcases DataW.trod_slice ht hx with ⟨rfl, rfl⟩ | ⟨a, len, cap, elems, rest, m, hm, rfl, rfl, hb, hlc, hcm, hlen, hel, hre, _⟩
 ·refine ⟨(some true, []), [], ?_, by simp, by simp [maxEl], by simp⟩
  simp only [Rep, eS]
  exact .inl ⟨none, by simp⟩
 ·obtain rfl : n = m := by omega
  obtain ⟨hrl, hre⟩ := hre rfl
  by_cases hc0 : cap = 0
  ·subst hc0
   obtain rfl : len = 0 := by omega
   refine ⟨(some false, []), [], ?_, by simp, by simp [maxEl], by simp⟩
   simp only [Rep, eS]
   exact .inl ⟨some a, by simp⟩
  ·have hany : ∀ j, j < cap → ∃ c, w.cells? 0 (a.add (j * sz)) sz = some c ∧ ∃ y, DataW.trod enc P w 0 (fun _ => true) true n e c = some y := by
    intro j hj
    rw [hs] at hel hre
    by_cases hjl : j < len
    ·have := hel j hjl
     rw [List.getElem?_eq_getElem (by omega), oB] at this
     obtain ⟨c, h1, h2⟩ := this
     exact ⟨c, h1, _, h2⟩
    ·have := hre (j - len) (by omega)
     rw [List.getElem?_eq_getElem (by omega), oB, show len + (j - len) = j by omega] at this
     obtain ⟨c, h1, h2⟩ := this
     exact ⟨c, h1, _, h2⟩
   obtain ⟨c1, hc1, _⟩ := hany (cap - 1) (by omega)
   obtain ⟨c, e', fr, hbk, _, hsz, _⟩ := cells_at hc1 h0
   obtain ⟨c2, hc2, _⟩ := hany 0 (by omega)
   obtain ⟨_, _, _, _, hsp, _, _⟩ := cells_at hc2 h0
   simp only [Nat.zero_mul, show ∀ a : Addr, a.add 0 = a from fun a => by simp [Addr.add]] at hsp
   simp only [add_block, add_off] at hbk hsz
   have hall : a.off + cap * sz ≤ c.size := by
    have : cap * sz = (cap - 1) * sz + sz := by
     conv => lhs; rw [show cap = cap - 1 + 1 by omega, Nat.add_mul, Nat.one_mul]
    omega
   obtain ⟨as, F, q1, q2, q3⟩ := repL_rows (h := w.heap) (f := f) (ok := ok) (c := c.toList) (sz := sz) len a.off fun i hi => by
    obtain ⟨ci, hci, y, hy⟩ := hany i (by omega)
    obtain ⟨c', e'', fr', hbk', _, _, hcs⟩ := cells_at hci h0
    simp only [add_block, add_off] at hbk' hcs
    rw [hbk] at hbk'
    cases hbk'
    obtain ⟨z, F, r1, r2⟩ := h _ enc w ci y hy
    exact ⟨z, F, by rw [← hcs]; exact r1, r2⟩
   refine ⟨(some false, as), a.block :: F, ?_, by simp, by simp [q1]; exact Nat.le_trans (Nat.le_trans hlc hcm) (by decide), q3⟩
   simp only [Rep, eS]
   refine .inr ⟨a.block, a.off, cap, c, e', fr, F, ?_, rfl, by simp, by simp [q1, hlc], by simp [q1]; exact Nat.le_trans (Nat.le_trans hlc hcm) (by decide), hbk, hall, ?_, by simpa [q1] using q2⟩
   ·rw [lM, q1]
    congr 3
    cases a
    simp_all
   ·intro d hd
    obtain ⟨z, _, rfl⟩ := List.mem_map.1 hd
    exact hf z

def Arg (P : Program) (t : TypeId) {α : Type} (f : α → D) (ok : α → Prop) : Prop :=
 (∀ n, Rd P n t f ok) ∧ (((∀ a, (f a).isAg = true) ∧ ∃ fs, P.underlying t = some (.struct fs)) ∨
  ((∀ a, (f a).isAg = false) ∧ (match P.underlying t with | some (.struct _) | some (.array _ _) => false | _ => true) = true))

theorem rep_one {h : Heap} {d : D} {F : List Nat} {cs : List Value} (hr : Rep h d F cs) (hd : d.isAg = false) : ∃ c, cs = [c] ∧ c.oneCell' = true := by
 cases d with
 | sc v => simp only [Rep] at hr; exact ⟨v, hr.2.1, hr.2.2⟩
 | ag ds => simp [D.isAg] at hd
 | ls nn sz ds =>
  simp only [Rep] at hr
  rcases hr with ⟨p, rfl, _⟩ | ⟨b, off, cap, c, e, fr, F', rfl, _⟩
  ·exact ⟨_, rfl, rfl⟩
  ·exact ⟨_, rfl, rfl⟩
 | pt d j =>
  simp only [Rep] at hr
  obtain ⟨b, off, c, e, fr, F', rfl, _⟩ := hr
  exact ⟨_, rfl, rfl⟩
 | jk => simp only [Rep] at hr; obtain ⟨_, v, rfl, hv⟩ := hr; exact ⟨v, rfl, hv⟩
 | fn f ds => simp only [Rep] at hr; obtain ⟨vs, rfl, _⟩ := hr; exact ⟨_, rfl, rfl⟩
 | lc b o d => simp only [Rep] at hr; rcases hr.1 with ⟨_, _, rfl⟩ | rfl <;> exact ⟨_, rfl, rfl⟩

theorem arg_of {t : TypeId} {α : Type} {f : α → D} {ok : α → Prop} (ha : Arg P t f ok) {H : Type} {enc : TypeId × Value → H} {w : World} {b : Nat} {v : Value} {d : DataW H} {ps : List MemPlace}
  (ho : Value.okWide P w .any b t v) (h : DataW.Trod enc P w 0 (fun _ => true) true t v d ps) : ∃ a F, Rep w.heap (f a) F v.cells.toList ∧ (f a).fits v ∧ ok a := by
 obtain ⟨n, hn⟩ := h
 obtain ⟨a, F, r, o⟩ := ha.1 n _ enc w _ _ hn
 refine ⟨a, F, r, ?_, o⟩
 rcases ha.2 with ⟨h1, fs, hs⟩ | ⟨h1, h2⟩
 ·simp only [Value.okWide, hs] at ho
  obtain ⟨cs, rfl, _⟩ := ho
  have h1 := h1 a
  cases hd : f a with
  | ag ds => exact ⟨_, rfl⟩
  | _ => simp [hd, D.isAg] at h1
 ·have h1 := h1 a
  obtain ⟨c, hc, hc1⟩ := rep_one r h1
  have hv : v.oneCell' = true := by
   cases v with
   | agg cs =>
    exfalso
    cases hu : P.underlying t with
    | none => simp [Value.okWide, hu, Cell.okWide, Cell.ok] at ho
    | some u => cases u <;> simp_all [Value.okWide, Cell.okWide, Cell.ok]
   | _ => simp_all [Value.cells]
  cases hd : f a with
  | ag ds => simp [hd, D.isAg] at h1
  | _ => exact hv

theorem args_two {t t' : TypeId} {α β : Type} {f : α → D} {ok : α → Prop} {f' : β → D} {ok' : β → Prop} (ha : Arg P t f ok) (ha' : Arg P t' f' ok') {H : Type} {enc : TypeId × Value → H} {w : World} {b : Nat} {args : Array Value} {ds : List (DataW H)} {ps : List MemPlace}
  (ho : ∀ (j : Nat) u v, [t, t'][j]? = some u → args[j]? = some v → Value.okWide P w .any b u v) (h : DataW.TrodAll enc P w 0 (fun _ => true) true [t, t'] args.toList ds ps) :
  ∃ a a', ArgsRep w.heap (fun _ => True) [f a, f' a'] args.toList ∧ ok a ∧ ok' a' := by
 obtain ⟨v, v', d, d', p, p', rfl, rfl, rfl, h1, h2⟩ := trodAll_two h
 obtain ⟨a, F, r, q, o⟩ := arg_of ha (ho 0 t v rfl rfl) h1
 obtain ⟨a', F', r', q', o'⟩ := arg_of ha' (ho 1 t' v' rfl rfl) h2
 exact ⟨a, a', by simp only [ArgsRep]; exact ⟨v, _, F, rfl, r, q, fun _ _ => trivial, v', _, F', rfl, r', q', fun _ _ => trivial, rfl⟩, o, o'⟩

theorem trodAll_below {H : Type} {enc : TypeId × Value → H} (hl : laidOutB P = true) {W W' : World} (hb : Below W.heap.size W W') {sp : Nat → Bool} :
  ∀ {ts : List TypeId} {vs : List Value} {ds : List (DataW H)} {ps : List MemPlace}, (∀ t ∈ ts, P.readableRec t = true ∧ t < P.types.size) → (∀ x ∈ ps, x.block < W.heap.size) → (∀ x ∈ ps, sp x.block = true) →
   DataW.TrodAll enc P W 0 (fun _ => true) true ts vs ds ps → DataW.TrodAll enc P W' 0 sp true ts vs ds ps
 | [], _, _, _, _, _, _, h => by
  obtain ⟨rfl, rfl, rfl⟩ := trodAll_nil h
  rfl
 | t :: ts, _, _, _, ht, hlt, hs, h => by
  obtain ⟨v, vs, d, ds, p, q, rfl, rfl, rfl, h1, h2⟩ := trodAll_cons h
  exact ⟨p, q, WideElems.Trod_stays hl (ht t (by simp)).1 (ht t (by simp)).2 h1 (fun x hx => hb.same (hlt x (by simp [hx]))) (fun x hx => hs x (by simp [hx])),
   trodAll_below hl hb (fun t' h' => ht t' (by simp [h'])) (fun x hx => hlt x (by simp [hx])) (fun x hx => hs x (by simp [hx])) h2, rfl⟩

theorem post_true {f : Func} {s : ChangeSpec} {H : Type} {enc : TypeId × Value → H} {t : TypeId} {W W' : World} {args : Array Value} {ds gs : List (DataW H)} {before : List MemPlace}
  (hl : laidOutB P = true) (hvars : s.vars = []) (hres : f.resultTypes = #[t]) (ht : P.underlying t = some .bool) (hp : ∀ t ∈ f.params.toList, P.readableRec t = true ∧ t < P.types.size)
  (hs : (s.fn H (ds ++ gs)).results = [.lit (.bool true)] ∧ (s.fn H (ds ++ gs)).args = ds ∧ (s.fn H (ds ++ gs)).vars = [])
  (hW : DataW.Whole enc P f.params.toList s.vars false W args.toList ds gs before) (hb : Below W.heap.size W W') :
  s.post enc P f false true false false W args (.bool true) W' := by
 have hlt := hW.lt
 obtain ⟨p, q, h1, h2, rfl, h3, h4⟩ := id hW
 rw [hvars] at h2
 obtain ⟨rfl, rfl⟩ := trodVars_none h2
 simp only [List.append_nil] at hlt
 refine ⟨ds, [], p ++ [], [], p, [], hW, ?_, ?_, ?_, World.keptBut_mono (fun x hx => ⟨hx, .inr (.inl (by simpa using hx))⟩) (hb.frame (· ∈ p ++ [])), fun h => by cases h⟩
 ·rw [hs.1, hres]
  refine trodAll_mk1 ?_
  exact ⟨1, by simp [Value.cells, DataW.trod, ht]⟩
 ·rw [hs.2.1]
  exact trodAll_below hl hb hp hlt (fun x hx => by simpa using hlt x hx) h1
 ·rw [hs.2.2, hvars]
  rfl

theorem lifted_true {C : Checked} {os : Os} {f : FuncId} {fn : Func} {s : ChangeSpec} {H : Type} {enc : TypeId × Value → H} {t : TypeId}
  (own : ownKnob C.prog.godebug = none) (started : os.Started) (noInit : C.prog.inits.idxOf? f = none) (hfn : C.prog.funcs[f]? = some fn)
  (hl : laidOutB C.prog = true) (hvars : s.vars = []) (hres : fn.resultTypes = #[t]) (ht : C.prog.underlying t = some .bool) (hp : ∀ t ∈ fn.params.toList, C.prog.readableRec t = true ∧ t < C.prog.types.size)
  (hs : ∀ ds : List (DataW H), ds.length = fn.params.size → (s.fn H ds).results = [.lit (.bool true)] ∧ (s.fn H ds).args = ds ∧ (s.fn H ds).vars = [])
  (witness : ∃ (w : World) (tape : Tape) (i : Input), w.os = os ∧ (w.forCall tape i).Shaped C.prog ∧ i.vars = [] ∧ Input.okWide C.prog (w.forCall tape i) .any w.heap.size f i ∧
   s.pre6 enc C.prog fn [] false (w.forCall tape i).memory i.args ∧ ({} : Assume).holds C.prog (lone (Frame.enter C.prog f i.args .normal) [] (w.forCall tape i)))
  (h : ∀ (W : World) (b : Nat) (args : Array Value) (ds : List (DataW H)) (ps : List MemPlace), (∀ (j : Nat) u v, fn.params.toList[j]? = some u → args[j]? = some v → Value.okWide C.prog W .any b u v) →
   DataW.TrodAll enc C.prog W 0 (fun _ => true) true fn.params.toList args.toList ds ps → ∃ DS, AF C.prog f DS (.own (eB true)) ∧ ArgsRep W.heap (fun _ => True) DS args.toList) :
  ReturnsInHanded {} C os f .any (s.pre6 enc C.prog fn [] false) (s.post enc C.prog fn false true false false) := by
 refine returnsInHanded_of_change own started noInit hfn witness ?_
 intro W base args ds gs before hval hW _ _
 obtain ⟨p, q, hA, hV, _, _, _⟩ := id hW
 rw [hvars] at hV
 obtain ⟨rfl, rfl⟩ := trodVars_none hV
 obtain ⟨DS, hAF, hR⟩ := h W base args ds p (fun j u v h1 h2 => hval j u v (by simpa using h1) h2) hA
 have hlen : ds.length = fn.params.size := by
  have : ∀ {ts : List TypeId} {vs : List Value} {ds : List (DataW H)} {ps : List MemPlace}, DataW.TrodAll enc C.prog W 0 (fun _ => true) true ts vs ds ps → ds.length = ts.length := by
   intro ts
   induction ts with
   | nil => intro vs ds ps h; obtain ⟨rfl, rfl, rfl⟩ := trodAll_nil h; rfl
   | cons t ts ih =>
    intro vs ds ps h
    obtain ⟨v, vs, d, ds, p, q, rfl, rfl, rfl, h1, h2⟩ := trodAll_cons h
    simp [ih h2]
  simpa using this hA
 have := hAF.2 W args.toList (fun _ => True) hR
 rw [show args.toList.toArray = args from by simp] at this
 refine this.mono ?_
 rintro e W' ⟨v, F, G, rfl, hb, hr, _⟩
 simp only [RetRep, Rep, eB] at hr
 obtain ⟨_, ⟨_, hc, _⟩, hf⟩ := hr
 have hv : v = .bool true := by
  cases v <;> simp_all [Value.cells, D.fits, Value.oneCell']
 subst hv
 exact ⟨_, rfl, post_true hl hvars hres ht hp (by simpa using hs ds hlen) hW hb⟩

end
end Go.Ax
attribute [go_sem] decide_true decide_false and_self true_and and_true false_and and_false not_true_eq_false not_false_eq_true false_implies true_implies implies_true ge_iff_le Bool.false_eq_true List.cons_append List.nil_append
attribute [go_sem_proc] Nat.reduceEqDiff Nat.reduceAdd Nat.reduceLeDiff Nat.reduceLT Nat.reduceBEq Nat.reduceBneDiff
attribute [go_sem_proc ↓] reduceIte
namespace Go.Ax
abbrev D.ze : D := .ag [.sc (.int .i64 0), .sc (.int .i64 0), .ls (some true) 3 []]
abbrev D.zp : D := .ag [.sc (.int .i64 0), .sc (.int .i64 0), .sc (.int .i64 0), .sc (.int .i64 0), .ls (some true) 3 [], .ls (some true) 6 []]
abbrev X.cf : X := .c (.sc (.bool false))
abbrev X.ct : X := .c (.sc (.bool true))
abbrev X.ci (n : Int) : X := .c (.sc (.int .i64 n))
abbrev RO.m (d s : Nat) : RO := ⟨none, .mv d (.t s)⟩
abbrev RO.f (d o s : Nat) : RO := ⟨none, .fa d o (.t s)⟩
abbrev RO.l (d z s : Nat) : RO := ⟨none, .ld d false z (.t s)⟩
abbrev RO.L (d z s : Nat) : RO := ⟨none, .ld d true z (.t s)⟩
abbrev RO.q (d s : Nat) (n : Int) : RO := ⟨none, .bin d .eql (.t s) (.ci n)⟩
abbrev RO.k (d c a : Nat) : RO := ⟨none, .pick d (.t c) (.t a) .cf⟩
abbrev RO.s (z a x : Nat) : RO := ⟨none, .st z (.t a) (.t x)⟩
abbrev RO.n (d s : Nat) : RO := ⟨none, .nck d (.t s)⟩
abbrev RO.b (d z s : Nat) : RO := ⟨none, .box d z (.t s)⟩
abbrev RO.i (d z s : Nat) (n : Int) : RO := ⟨none, .ia d z (.t s) (.ci n)⟩
abbrev RO.o (o : ROp) : RO := ⟨none, o⟩
abbrev RO.w (n : Nat) (o : ROp) : RO := ⟨some (n, true), o⟩
abbrev RO.u (n : Nat) (o : ROp) : RO := ⟨some (n, false), o⟩
abbrev RC.r (l : List RO) : RC := .reg false l
abbrev RO.c (d f : Nat) (l : List X) : RO := ⟨none, .call (some d) f l⟩
abbrev RO.v (d : Nat) (x : X) : RO := ⟨none, .mv d x⟩
abbrev RO.wm (n d s : Nat) : RO := ⟨some (n, true), .mv d (.t s)⟩
attribute [go_sem] D.ze D.zp X.cf X.ct X.ci RO.m RO.f RO.l RO.L RO.q RO.k RO.s RO.n RO.b RO.i RO.o RO.w RO.u RC.r RO.c RO.v RO.wm
end Go.Ax
