/- THE ENGINE, PART 7: a generator of conditions over the register code, and its soundness. No condition. -/
import Derived.Test.YtcmcncenncobfaaDoorEnF
import Derived.OrdersHeld
import Derived.Deep.LoopGhost
import Derived.KernelRfl
set_option linter.unusedSimpArgs false
set_option linter.unusedVariables false
set_option linter.unnecessarySimpa false
set_option linter.unusedSectionVars false
namespace Go.Ax
set_option linter.unusedSimpArgs false

variable {P : Program} {wv : Wv} {n0 : Nat} {S0 M0 : Nat → Prop} {w0 : World}
variable [Gk P n0 M0 w0]
variable {ops : Array Oper} {R : List RO}

theorem chkAll_mem {s : St} {cs : List ROp} : chkAll P cs s → ∀ c ∈ cs, chkOp P c s := by
 induction cs with
 | nil => intro _ c hc; cases hc
 | cons c cs ih =>
  intro h x hx
  simp only [chkAll] at h
  obtain ⟨h1, h2⟩ := h
  rcases List.mem_cons.1 hx with e | hx
  ·rw [e]; exact h1
  ·exact ih h2 x hx

def dstOf (ops : Array Oper) (i : Nat) : Option Nat := (ops[i]?).bind (·.dst)

def puts (ops : Array Oper) (val : Nat → Value) : List Nat → Act → Act
 | [], a => a
 | i :: L, a => (puts ops val L a).put (dstOf ops i) (val i)

def ancs (ops : Array Oper) (e : Nat) : List Nat := (List.range e).reverse.foldl (fun acc i => if (e :: acc).any (fun k => (waits ops k).contains i) then i :: acc else acc) []
def chksR (ops : Array Oper) (R : List RO) : List Nat → List Nat → List (List ROp × RO)
 | _, [] => []
 | Lc, e :: es => (Lc.map (fun i => (R.getD i default).op), R.getD e default) :: chksR ops R (Lc.filter (fun l => !(ancs ops e).contains l)) es
def chksEnd (ops : Array Oper) : List Nat → List Nat → Bool
 | Lc, [] => Lc.isEmpty
 | Lc, e :: es => chksEnd ops (Lc.filter (fun l => !(ancs ops e).contains l)) es

theorem act_put2 {a : Act} {d : Option Nat} {u v : Value} : (a.put d u).put d v = a.put d v := by
 cases d with
 | none => rfl
 | some d => simp [Act.put]

theorem puts_out {val : Nat → Value} {d : Option Nat} {v : Value} : ∀ {L : List Nat} {a : Act}, (∀ j ∈ L, ∀ t, d = some t → dstOf ops j ≠ some t) → puts ops val L (a.put d v) = (puts ops val L a).put d v
 | [], _, _ => rfl
 | i :: L, a, h => by
  simp only [puts]
  rw [puts_out (fun j hj => h j (by simp [hj]))]
  exact Act.put_comm _ v (val i) fun t ht => h i (by simp) t ht

theorem puts_put {val : Nat → Value} {i : Nat} {v : Value} : ∀ {L : List Nat} {a : Act}, L.Nodup → i ∈ L → (∀ j ∈ L, j ≠ i → ∀ t, dstOf ops i = some t → dstOf ops j ≠ some t) →
  (puts ops val L a).put (dstOf ops i) v = puts ops val (L.erase i) (a.put (dstOf ops i) v)
 | j :: L, a, hn, hi, h => by
  rw [List.nodup_cons] at hn
  by_cases e : j = i
  ·subst e
   simp only [puts, List.erase_cons_head]
   rw [act_put2, puts_out]
   intro k hk t ht
   exact h k (by simp [hk]) (fun e => hn.1 (e ▸ hk)) t ht
  ·have hi' : i ∈ L := by rcases List.mem_cons.1 hi with h | h; exact absurd h.symm e; exact h
   rw [List.erase_cons_tail (by simpa using e)]
   simp only [puts]
   rw [← puts_put hn.2 hi' (fun k hk => h k (by simp [hk]))]
   exact (Act.put_comm _ v (val j) fun t ht => h j (by simp) e t ht).symm

theorem exec_puts {val : Nat → Value} {o : Oper} (hs : ∀ cs b, o.op ≠ .select cs b) : ∀ {L : List Nat} {a : Act}, (∀ j ∈ L, ∀ d, dstOf ops j = some d → d ∉ o.looksAt ops) → execOp (puts ops val L a).eval o = execOp a.eval o
 | [], _, _ => rfl
 | i :: L, a, h => by
  simp only [puts]
  rw [execOp_put (ops := ops) o hs _ _ _ (h i (by simp))]
  exact exec_puts hs fun j hj => h j (by simp [hj])

theorem wpOp_puts {Q : Exit → Act → World → Prop} {val : Nat → Value} {j : Nat} {oj : Oper} (hns : Region.noSelect ops = true) (hj : ops[j]? = some oj) (hQ : ∀ c a w, ¬ Q (.panic c) a w) {w : World} : ∀ {L : List Nat} {a : Act} {K : Act → World → Prop},
  (∀ l ∈ L, ∃ ol, ops[l]? = some ol ∧ ol.apart ops oj = true ∧ ol.guard = none) → wpOp P ops Q j K (puts ops val L a) w → wpOp P ops Q j (fun a' w' => K (puts ops val L a') w') a w
 | [], _, _, _, h => h
 | i :: L, a, K, hL, h => by
  obtain ⟨ol, h1, h2, h3⟩ := hL i (by simp)
  simp only [puts] at h ⊢
  have hd : dstOf ops i = ol.dst := by simp [dstOf, h1]
  rw [hd] at h ⊢
  have := wpOp_putIf (S := fun _ => False) (oi := ol) hj h2 (fun cs b => Region.noSelect_spec hns i ol cs b h1) (fun cs b => Region.noSelect_spec hns j oj cs b hj) (fun c a w hq => absurd hq (hQ _ _ _)) (.inl ⟨by simp [Region.wanted, h3], fun _ hf => hf.elim⟩) h
  exact wpOp_mono (fun a' w' hk => hk.2) (wpOp_puts hns hj hQ (fun l hl => hL l (by simp [hl])) this)

theorem ancs_in {X : List Nat} {e : Nat} (hc : ∀ i ∈ X, ∀ j ∈ waits ops i, j ∈ X) (hw : ∀ j ∈ waits ops e, j ∈ X) : ∀ i ∈ ancs ops e, i ∈ X := by
 have key : ∀ (l acc : List Nat), (∀ i ∈ acc, i ∈ X) → ∀ i ∈ l.foldl (fun acc i => if (e :: acc).any (fun k => (waits ops k).contains i) then i :: acc else acc) acc, i ∈ X := by
  intro l
  induction l with
  | nil => intro acc h; exact h
  | cons x l ih =>
   intro acc h
   simp only [List.foldl_cons]
   refine ih _ ?_
   split
   ·next hx =>
    rw [List.any_eq_true] at hx
    obtain ⟨k, hk, hk2⟩ := hx
    rw [List.contains_eq_mem, decide_eq_true_eq] at hk2
    intro i hi
    rcases List.mem_cons.1 hi with rfl | hi
    ·rcases List.mem_cons.1 hk with rfl | hk
     ·exact hw _ hk2
     ·exact hc k (h k hk) _ hk2
    ·exact h i hi
   ·exact h
 exact key _ [] (by simp)

theorem Come.ready {X : List Nat} {listed : Array Bool} (h : Come P ops R X listed) {i : Nat} (hi : i < ops.size) (hm : i ∉ X) (hw : ∀ j ∈ waits ops i, j ∈ X) : i ∈ Region.ready .any ops listed := by
 rw [mem_ready]
 refine ⟨?_, ops[i], by simp [hi], fun x hx hb => ?_⟩
 ·cases hc : listed.getD i true with
  | false => rfl
  | true => exact absurd ((h.li i hi).1 hc) hm
 ·have hw' : x.on ∈ waits ops i := by
   simp only [waits, Array.getElem?_eq_getElem hi, direct]
   exact List.mem_map.2 ⟨x, List.mem_filter.2 ⟨by simpa using hx, hb⟩, rfl⟩
  have hin := hw _ hw'
  have := (h.li x.on (h.lt _ hin)).2 hin
  rw [Array.getD_eq_getD_getElem?] at this ⊢
  have hs : x.on < listed.size := by rw [h.size]; exact h.lt _ hin
  rw [Array.getElem?_eq_getElem hs] at this ⊢
  exact this

structure LateOk (ops : Array Oper) (R : List RO) (L : List Nat) : Prop where
 op : ∀ l ∈ L, ∃ ol r, ops[l]? = some ol ∧ R[l]? = some r ∧ ol.guard = none ∧ r.g = none ∧ r.op.isSt = true
 look : ∀ l ∈ L, ∀ ol, ops[l]? = some ol → ∀ j ∈ L, j ∈ waits ops l ∨ ∀ d, dstOf ops j = some d → d ∉ ol.looksAt ops
 inj : ∀ i ∈ L, ∀ j ∈ L, j ≠ i → ∀ t, dstOf ops i = some t → dstOf ops j ≠ some t

theorem isSt_dst {r : ROp} (h : r.isSt = true) : ∃ d, r.dst = some d := by cases r <;> first | exact ⟨_, rfl⟩ | cases h

theorem lphase {n : Nat} {K : Exit → St → Prop} {L : List Nat} (hR : ∀ (i : Nat) (o : Oper), ops[i]? = some o → ∃ r, R[i]? = some r ∧ resRO P wv n ops o = some r)
  (acyc : ∀ i, ∀ j ∈ waits ops i, j < i) (hns : Region.noSelect ops = true) (hL : LateOk ops R L) : ∀ (es : List Nat) (fuel : Nat) (Pd Lc X : List Nat) (val : Nat → Value) (listed : Array Bool) (s : St) (a : Act) (w : World),
  Come P ops R X listed → fuel + X.length = ops.size → (∀ j, j < ops.size → (j ∉ X ↔ j ∈ es ∨ j ∈ Pd)) → chainOk ops es = true → (∀ e ∈ es, e < ops.size ∧ e ∉ Pd) → Pd.Nodup → (∀ i ∈ Pd, i ∈ Lc) → (∀ i ∈ Lc, i ∈ L) →
  chksEnd ops Lc es = true → (∀ l ∈ L, ∀ e ∈ es, l ∈ waits ops e ∨ ∀ ol oe, ops[l]? = some ol → ops[e]? = some oe → ol.apart ops oe = true) →
  Sat n0 S0 M0 w0 s (puts ops val Pd a) w → s.n = n → vcEs P (chksR ops R Lc es) s K → wpAny P .any ops (fun e a w => e = .normal ∧ Post n0 S0 M0 w0 n K e a w) fuel listed a w
 | [], fuel, Pd, Lc, X, val, listed, s, a, w, hc, hf, hrem, _, _, _, hPL, _, hend, _, hs, hn, hq => by
  have hLc : Lc = [] := by simpa [chksEnd] using hend
  have hPd : Pd = [] := List.eq_nil_iff_forall_not_mem.2 fun i hi => by have := hPL i hi; rw [hLc] at this; cases this
  subst hPd
  refine wpAny_done ?_ ⟨rfl, s, hn, hq, hs⟩ fuel
  rw [List.eq_nil_iff_forall_not_mem]
  intro i hi
  obtain ⟨_, h2, o, ho, _⟩ := hc.next hi
  have := (hrem i (Array.getElem?_eq_some_iff.1 ho).1).1 h2
  simp at this
 | e :: es, 0, Pd, Lc, X, val, listed, s, a, w, hc, hf, hrem, _, hes, _, _, _, _, _, _, _, _ => by
  have he := (hes e (by simp)).1
  have h1 := full_of_len hc.nd hc.lt (by omega) e he
  exact absurd h1 ((hrem e he).2 (.inl (by simp)))
 | e :: es, fuel + 1, Pd, Lc, X, val, listed, s, a, w, hc, hf, hrem, hch, hes, hnd, hPL, hLL, hend, hap, hs, hn, hq => by
  have hele := (hes e (by simp)).1
  obtain ⟨hso, hwt⟩ := chain_spec hch
  refine ⟨fun h0 => ?_, fun i hi => ?_⟩
  ·exfalso
   have hall : ∀ i, i < ops.size → i ∈ X := by
    intro i
    induction i using Nat.strongRecOn with
    | ind i ih =>
     intro hi
     refine Classical.byContradiction fun hne => ?_
     have := hc.ready hi hne fun j hj => ih j (acyc i j hj) (by have := acyc i j hj; omega)
     rw [h0] at this; cases this
   exact (hrem e hele).2 (.inl (by simp)) (hall e hele)
  ·obtain ⟨h1, h2, o, ho, h3⟩ := hc.next hi
   have his := (Array.getElem?_eq_some_iff.1 ho).1
   obtain ⟨r, hr, hres⟩ := hR i o ho
   have hres0 := hres
   unfold resRO at hres0
   simp only [oD, oB, guard_some] at hres0
   obtain ⟨op, hop, _, hdst, _, hdn, hres0⟩ := hres0
   have hrop : r.op = op := by
    split at hres0
    ·simp only [oP, oS] at hres0; rw [← hres0]
    ·simp only [oB, oP, oS] at hres0
     obtain ⟨_, _, _, _, hres0⟩ := hres0
     rw [← hres0]
   have hdo : dstOf ops i = o.dst := by simp [dstOf, ho]
   by_cases hiP : i ∈ Pd
   ·
    have hiL := hLL i (hPL i hiP)
    obtain ⟨ol, r', e1, e2, hgd, hg, hst⟩ := hL.op i hiL
    rw [ho] at e1; injection e1 with e1; subst e1
    rw [hr] at e2; injection e2 with e2; subst e2
    have hck : chkOp P r.op s := by
     have := chkAll_mem hq.1 r.op (List.mem_map.2 ⟨i, hPL i hiP, by simp [List.getD_eq_getElem?_getD, hr]⟩)
     exact this
    rw [hrop] at hck hst
    obtain ⟨d, hd⟩ := isSt_dst hst
    unfold chkOp at hck
    rw [hd] at hck
    simp only at hck
    have hod : o.dst = some d := by rw [← hdst]; exact hd
    obtain ⟨g, hu, hv⟩ := hs.gh
    have hdl : ∀ t, o.dst = some t → t < s.n := by
     intro t ht
     rw [hn]
     rw [ht] at hdn
     simpa using hdn
    obtain ⟨av, v, hrun, hrep, ⟨hav, _⟩⟩ := still_sound hop hst ⟨hs, hu, hv, hdl⟩ hck
    have hsel : ∀ cs b, o.op ≠ .select cs b := fun cs b => Region.noSelect_spec hns i o cs b ho
    have hex : execOp (puts ops val Pd a).eval o = execOp a.eval o := exec_puts hsel fun j hj t ht => by
     rcases hL.look i hiL o ho j (hLL j (hPL j hj)) with h4 | h4
     ·have hjX := h3 j h4
      exact absurd hjX ((hrem j (hc.lt j hjX)).2 (.inr hj))
     ·exact h4 t ht
    rw [hex] at hrun
    have hs' : Sat n0 S0 M0 w0 s (puts ops val (Pd.erase i) (a.put o.dst v)) w := by
     have x := sat_set hs hu hv hdl hrep
     rw [← hdo, puts_put hnd hiP (fun j hj hne t ht => hL.inj i hiL j (hLL j (hPL j hj)) hne t ht), hdo] at x
     rw [hod] at x
     rw [hod]
     refine x.eqv rfl ?_ (List.Perm.refl _)
     intro t
     simp only [St.setO, St.set, lk]
     split
     ·next h => subst h; exact hav.symm
     ·rfl
    unfold wpOp
    rw [ho]
    simp only
    rw [if_pos (by simp [Region.wanted, hgd])]
    refine .inl ?_
    unfold Oper.wp
    rw [hrun]
    refine lphase hR acyc hns hL (e :: es) fuel (Pd.erase i) Lc (i :: X) val _ s _ w h1 (by simp only [lK]; omega) ?_ hch (fun x hx => ⟨(hes x hx).1, fun hm => (hes x hx).2 (List.mem_of_mem_erase hm)⟩) (hnd.erase i) (fun j hj => hPL j (List.mem_of_mem_erase hj)) hLL hend hap hs' hn hq
    intro j hj
    rw [hnd.mem_erase_iff]
    have := hrem j hj
    constructor
    ·intro hx
     rcases this.1 (fun h => hx (List.mem_cons_of_mem _ h)) with h4 | h4
     ·exact .inl h4
     ·exact .inr ⟨fun e => hx (by simp [e]), h4⟩
    ·rintro (h4 | ⟨h4, h5⟩) hx
     ·rcases List.mem_cons.1 hx with rfl | hx
      ·exact (hes _ h4).2 hiP
      ·exact this.2 (.inl h4) hx
     ·rcases List.mem_cons.1 hx with rfl | hx
      ·exact h4 rfl
      ·exact this.2 (.inr h5) hx
   ·
    have hie : i = e := by
     rcases (hrem i his).1 h2 with h4 | h4
     ·rcases List.mem_cons.1 h4 with h5 | h5
      ·exact h5
      ·exfalso
       obtain ⟨q, hq1, hq2⟩ := List.mem_iff_getElem.1 h5
       have hw := hwt q (by simp; omega)
       have e1 : (e :: es)[q + 1]'(by simp; omega) = i := by simpa using hq2
       rw [e1] at hw
       have hpre : (e :: es)[q]'(by simp; omega) ∈ e :: es := List.getElem_mem _
       have hx := h3 _ hw
       exact (hrem _ (hc.lt _ hx)).2 (.inl hpre) hx
     ·exact absurd h4 hiP
    subst hie
    have hget : R.getD i default = r := by simp [List.getD_eq_getElem?_getD, hr]
    have hq2 := hq.2
    rw [hget] at hq2
    have hq' : match r.g with | none => vcOp P r.op s (fun s' => vcEs P (chksR ops R (Lc.filter (fun l => !(ancs ops i).contains l)) es) s' K) | some (t, b) => grdK (s.get t) b (vcOp P r.op s (fun s' => vcEs P (chksR ops R (Lc.filter (fun l => !(ancs ops i).contains l)) es) s' K)) (vcEs P (chksR ops R (Lc.filter (fun l => !(ancs ops i).contains l)) es) (s.setO r.op.dst (.tup [])) K) := by
     obtain ⟨gg, op'⟩ := r
     cases gg with
     | none => exact hq2
     | some x => exact hq2
    rw [← hn] at hres
    have keyr := ro_sound (Q' := fun e a w => e = .normal ∧ Post n0 S0 M0 w0 n K e a w) hres hs hq'
    have hap' : ∀ l ∈ Pd, ∃ ol, ops[l]? = some ol ∧ ol.apart ops o = true ∧ ol.guard = none := by
     intro l hl
     obtain ⟨ol, rl, e1, _, hgd, _, _⟩ := hL.op l (hLL l (hPL l hl))
     rcases hap l (hLL l (hPL l hl)) i (by simp) with h4 | h4
     ·have hx := h3 l h4
      exact absurd hx ((hrem l (hc.lt l hx)).2 (.inr hl))
     ·exact ⟨ol, e1, h4 ol o e1 ho, hgd⟩
    have step : wpOp P ops (fun e a w => e = .normal ∧ Post n0 S0 M0 w0 n K e a w) i (EPost n0 S0 M0 w0 s.n (fun s' => vcEs P (chksR ops R (Lc.filter (fun l => !(ancs ops i).contains l)) es) s' K)) (puts ops val Pd a) w := by
     unfold wpOp
     rw [ho]
     simp only
     split
     ·next hw => exact .inl (keyr.1 hw)
     ·next hw => exact keyr.2 (by simpa using hw)
    refine wpOp_mono ?_ (wpOp_puts hns ho (fun c a w h => by simp at h) hap' step)
    rintro a' w' ⟨s', hn', hf', hs'⟩
    refine lphase hR acyc hns hL es fuel Pd _ (i :: X) val _ s' a' w' h1 (by simp only [lK]; omega) ?_ ?_ (fun x hx => hes x (by simp [hx])) hnd ?_ (fun j hj => hLL j (List.mem_filter.1 hj).1) hend (fun l hl x hx => hap l hl x (by simp [hx])) hs' (hn'.trans hn) hf'
    ·intro j hj
     have := hrem j hj
     have hni : i ∉ es := fun hm => by
      have := (List.pairwise_cons.1 hso).1 i hm
      omega
     constructor
     ·intro hx
      rcases this.1 (fun h => hx (List.mem_cons_of_mem _ h)) with h4 | h4
      ·rcases List.mem_cons.1 h4 with rfl | h4
       ·exact absurd (by simp) hx
       ·exact .inl h4
      ·exact .inr h4
     ·rintro h4 hx
      rcases List.mem_cons.1 hx with rfl | hx
      ·rcases h4 with h4 | h4
       ·exact hni h4
       ·exact hiP h4
      ·exact this.2 (h4.imp (fun h => by simp [h]) id) hx
    ·cases es with
     | nil => rfl
     | cons e' r' =>
      simp only [chainOk, bA] at hch
      exact hch.2
    ·intro j hj
     refine List.mem_filter.2 ⟨hPL j hj, ?_⟩
     simp only [Bool.not_eq_true', List.contains_eq_mem, decide_eq_false_iff_not]
     intro hm
     have hx := ancs_in hc.closed h3 j hm
     exact (hrem j (hc.lt j hx)).2 (.inr hj) hx

theorem come_of {X : List Nat} (h1 : X.Nodup) (h2 : ∀ i ∈ X, i < ops.size) (h3 : ∀ i ∈ X, ∀ j ∈ waits ops i, j ∈ X) : ∃ listed, Come P ops R X listed :=
 ⟨Array.ofFn (n := ops.size) (fun i => decide (i.1 ∈ X)), h1, h2, h3, by simp, fun j hj => by simp [Array.getD_eq_getD_getElem?, hj]⟩

theorem puts_append {val : Nat → Value} {p : Nat} : ∀ {L : List Nat} {a : Act}, puts ops val (L ++ [p]) a = puts ops val L (a.put (dstOf ops p) (val p))
 | [], _ => rfl
 | i :: L, a => by simp only [List.cons_append, puts]; rw [puts_append]
theorem puts_congr {val val' : Nat → Value} : ∀ {L : List Nat} {a : Act}, (∀ i ∈ L, val i = val' i) → puts ops val L a = puts ops val' L a
 | [], _, _ => rfl
 | i :: L, a, h => by simp only [puts]; rw [puts_congr fun j hj => h j (by simp [hj]), h i (by simp)]

theorem pendL {st : St} {V : Nat → Rs} {S N L : List Nat} (hd : DrawnE P wv ops R st V S N) (hL : LateOk ops R L) : ∀ (ps X : List Nat) (a : Act) (w : World), X.Nodup → (∀ i ∈ X, i ∈ N) → (∀ i ∈ X, ∀ j ∈ waits ops i, j ∈ X) → ps.Pairwise (· < ·) →
  (∀ i ∈ ps, i ∈ N ∧ i ∈ L ∧ i ∉ X) → (∀ i ∈ ps, ∀ j ∈ waits ops i, j ∈ X ∨ j ∈ ps) → Sat n0 S0 M0 w0 (execL st (dOf R) V X) a w → ∃ val, Sat n0 S0 M0 w0 (execL st (dOf R) V (ps.reverse ++ X)) (puts ops val ps.reverse a) w
 | [], X, a, w, _, _, _, _, _, _, hs => ⟨fun _ => undef, hs⟩
 | p :: ps, X, a, w, hnd, hXN, hcl, hso, hps, hpw, hs => by
  obtain ⟨hpN, hpL, hpX⟩ := hps p (by simp)
  rw [List.pairwise_cons] at hso
  have hlt : ∀ i ∈ X, i < ops.size := fun i hi => by rw [← hd.len]; exact ((hd.mem i).1 (hXN i hi)).1
  obtain ⟨listed, hcome⟩ := come_of (P := P) (R := R) hnd hlt hcl
  obtain ⟨o, r, ho, hr, hgd, hg, hst⟩ := hL.op p hpL
  obtain ⟨r', hr', hres⟩ := hd.res p o ho
  rw [hr] at hr'; injection hr' with hr'; subst hr'
  have hw : ∀ j ∈ waits ops p, j ∈ X := by
   intro j hj
   have h1 := hd.acyc p j hj
   rcases hpw p (by simp) j hj with h2 | h2
   ·exact h2
   ·rcases List.mem_cons.1 h2 with h3 | h3
    ·omega
    ·have := hso.1 j h3; omega
  obtain ⟨op, hop, hrop, hQ, hdst, hdl, ⟨g, hat⟩, hget, hqq⟩ := at_soundE hd hcome hXN hpN hr hres hw hpX hs
  have hstep := hd.step p r hpN hr
  unfold StepDet at hstep
  rw [hg] at hstep
  have hq' := hqq hstep
  rw [hrop] at hq' hst
  obtain ⟨av, v, hrun, hrep, hav, hu0⟩ := still_sound hop hst hat hq'
  have hdR : dOf R p = op.dst := by simp [dOf, hr, hrop]
  have hdo : dstOf ops p = o.dst := by simp [dstOf, ho]
  have hs1 : Sat n0 S0 M0 w0 (execL st (dOf R) V (p :: X)) (a.put (dstOf ops p) v) w := by
   have x := sat_set hat.sat hat.us hat.rep hat.dst hrep
   have e : execL st (dOf R) V (p :: X) = appS (execL st (dOf R) V X) op.dst (V p) := by simp only [execL]; rw [hdR]
   rw [e, hdo, hdst]
   unfold appS
   rw [← hu0, addUs_nil, ← hav]
   exact x
  obtain ⟨val, hv⟩ := pendL hd hL ps (p :: X) (a.put (dstOf ops p) v) w (List.nodup_cons.2 ⟨hpX, hnd⟩) (fun i hi => (List.mem_cons.1 hi).elim (fun e => e ▸ hpN) (hXN i))
   (fun i hi j hj => (List.mem_cons.1 hi).elim (fun e => List.mem_cons_of_mem _ (hw j (e ▸ hj))) (fun h => List.mem_cons_of_mem _ (hcl i h j hj))) hso.2
   (fun i hi => ⟨(hps i (by simp [hi])).1, (hps i (by simp [hi])).2.1, fun h => (List.mem_cons.1 h).elim (fun e => by have := hso.1 i hi; omega) (hps i (by simp [hi])).2.2⟩)
   (fun i hi j hj => (hpw i (by simp [hi]) j hj).elim (fun h => .inl (List.mem_cons_of_mem _ h)) (fun h => (List.mem_cons.1 h).elim (fun e => .inl (by simp [e])) .inr)) hs1
  refine ⟨fun i => if i = p then v else val i, ?_⟩
  have hpp : ∀ i ∈ ps.reverse, i ≠ p := fun i hi => by have := hso.1 i (List.mem_reverse.1 hi); omega
  simp only [List.reverse_cons, List.append_assoc, List.singleton_append]
  rw [puts_append, if_pos rfl, puts_congr (val' := val) (fun i hi => by simp [hpp i hi])]
  exact hv

theorem drawnL_any {st : St} {V : Nat → Rs} {K : Exit → St → Prop} {S L : List Nat} {e : Nat} {es : List Nat} (hd : DrawnE P wv ops R st V S (NL S R)) (hE : EL S R = e :: es) (hch : chainOk ops (e :: es) = true) (hns : Region.noSelect ops = true)
  (hL : LateOk ops R L) (hLN : ∀ l ∈ L, l ∈ NL S R) (hce : chksEnd ops L (e :: es) = true) (hap : ∀ l ∈ L, ∀ x ∈ e :: es, l ∈ waits ops x ∨ ∀ ol oe, ops[l]? = some ol → ops[x]? = some oe → ol.apart ops oe = true)
  (hup : ∀ i ∈ NL S R, i ∉ L → ∀ j ∈ waits ops i, j ∉ L)
  (hcov : ∀ i ∈ NL S R, i ∉ L → flOk ops R i = true ∨ i ∈ waits ops e ∨ ∃ k ∈ NL S R, k ∉ L ∧ i < k ∧ flOk ops R k = false ∧ i ∈ waits ops k)
  (hend : vcEs P (chksR ops R L (e :: es)) (execL st (dOf R) V (NL S R).reverse) K) : ∀ (fuel : Nat) (X : List Nat) (listed : Array Bool) (a : Act) (w : World),
  Come P ops R X listed → (∀ i ∈ X, i ∈ NL S R) → fuel + X.length = ops.size → Sat n0 S0 M0 w0 (execL st (dOf R) V X) a w → wpAny P .any ops (fun e a w => e = .normal ∧ Post n0 S0 M0 w0 st.n K e a w) fuel listed a w := by
 have hel : e < ops.size := by
  have : e ∈ EL S R := by rw [hE]; simp
  rw [← hd.len]; exact (mem_EL.1 this).1
 have heN : e ∉ NL S R := by
  have : e ∈ EL S R := by rw [hE]; simp
  intro h
  have h1 := (mem_EL.1 this).2
  have h2 := (mem_NL.1 h).2
  rw [h1] at h2
  cases h2
 have hes : ∀ x ∈ e :: es, x < ops.size ∧ x ∉ NL S R := by
  intro x hx
  rw [← hE] at hx
  obtain ⟨h1, h2⟩ := mem_EL.1 hx
  exact ⟨by rw [← hd.len]; exact h1, fun h => by have := (mem_NL.1 h).2; rw [h2] at this; cases this⟩

 have fin : ∀ (fuel : Nat) (X : List Nat) (listed : Array Bool) (a : Act) (w : World), Come P ops R X listed → (∀ i ∈ X, i ∈ NL S R) → fuel + X.length = ops.size → Sat n0 S0 M0 w0 (execL st (dOf R) V X) a w → (∀ i ∈ NL S R, i ∉ L → i ∈ X) →
   wpAny P .any ops (fun e a w => e = .normal ∧ Post n0 S0 M0 w0 st.n K e a w) fuel listed a w := by
  intro fuel X listed a w h hX hl hs hall
  have hps : ((NL S R).filter fun i => decide (i ∉ X)).Pairwise (· < ·) := List.Pairwise.filter _ (NL_sorted S R)
  have hpm : ∀ i, i ∈ ((NL S R).filter fun i => decide (i ∉ X)) ↔ i ∈ NL S R ∧ i ∉ X := fun i => by simp
  generalize hpe : ((NL S R).filter fun i => decide (i ∉ X)) = ps at hps hpm
  obtain ⟨val, hv⟩ := pendL hd hL ps X a w h.nd hX h.closed hps (fun i hi => by
    obtain ⟨h1, h2⟩ := (hpm i).1 hi
    exact ⟨h1, Classical.byContradiction fun h3 => h2 (hall i h1 h3), h2⟩)
   (fun i hi j hj => by
    by_cases hx : j ∈ X
    ·exact .inl hx
    ·exact .inr ((hpm j).2 ⟨hd.nw i ((hpm i).1 hi).1 j hj, hx⟩)) hs
  have hpn := sorted_nodup hps
  have hnd : (ps.reverse ++ X).Nodup := by
   rw [List.nodup_append]
   refine ⟨(List.reverse_perm _).nodup_iff.2 hpn, h.nd, fun x hx y hy e => ?_⟩
   subst e
   exact ((hpm x).1 (List.mem_reverse.1 hx)).2 hy
  have hp : (ps.reverse ++ X).Perm (NL S R).reverse := (List.perm_ext_iff_of_nodup hnd ((List.reverse_perm _).nodup_iff.2 hd.nnd)).2 fun i => by
   rw [List.mem_append, List.mem_reverse, List.mem_reverse, hpm]
   constructor
   ·rintro (h1 | h1)
    ·exact h1.1
    ·exact hX i h1
   ·intro h1
    by_cases hx : i ∈ X
    ·exact .inr hx
    ·exact .inl ⟨h1, hx⟩
  have hs' : Sat n0 S0 M0 w0 (execL st (dOf R) V (NL S R).reverse) (puts ops val ps.reverse a) w := by
   refine hv.eqv (by rw [execL_n, execL_n]) ?_ ?_
   ·intro t
    have x := execL_lk (st0 := st) (V := V) hd.inj (L := ps.reverse ++ X) (t := t)
    have y := execL_lk (st0 := st) (V := V) hd.inj (L := (NL S R).reverse) (t := t)
    by_cases he : ∃ j, j ∈ ps.reverse ++ X ∧ dOf R j = some t
    ·obtain ⟨j, h1, h2⟩ := he
     rw [x.1 j h1 h2, y.1 j (hp.mem_iff.1 h1) h2]
    ·rw [x.2 fun k hk e => he ⟨k, hk, e⟩, y.2 fun k hk e => he ⟨k, hp.mem_iff.2 hk, e⟩]
   ·rw [execL_us, execL_us]
    exact ((hp.flatMap_right _).append_right _).symm
  refine lphase hd.res hd.acyc hns hL (e :: es) fuel ps.reverse L X val listed _ a w h hl ?_ hch ?_ ((List.reverse_perm _).nodup_iff.2 hpn) ?_ (fun i hi => hi) hce hap hs' execL_n hend
  ·intro j hj
   have hjR : j < R.length := by rw [hd.len]; exact hj
   rw [← hE, List.mem_reverse, hpm]
   constructor
   ·intro hx
    cases hq : S.contains j with
    | true => exact .inr ⟨mem_NL.2 ⟨hjR, hq⟩, hx⟩
    | false => exact .inl (mem_EL.2 ⟨hjR, hq⟩)
   ·rintro (h1 | h1) hx
    ·have h2 := (mem_EL.1 h1).2
     have h3 := (mem_NL.1 (hX j hx)).2
     rw [h2] at h3; cases h3
    ·exact h1.2 hx
  ·intro x hx
   exact ⟨(hes x hx).1, fun hm => (hes x hx).2 ((hpm x).1 (List.mem_reverse.1 hm)).1⟩
  ·intro i hi
   obtain ⟨h1, h2⟩ := (hpm i).1 (List.mem_reverse.1 hi)
   exact Classical.byContradiction fun h3 => h2 (hall i h1 h3)
 intro fuel
 induction fuel with
 | zero =>
  intro X listed a w h hX hl hs
  have := full_of_len h.nd h.lt (by omega) e hel
  exact absurd (hX e this) heN
 | succ fuel ih =>
  intro X listed a w h hX hl hs
  by_cases hall : ∀ i ∈ NL S R, i ∉ L → i ∈ X
  ·exact fin (fuel + 1) X listed a w h hX hl hs hall
  have ready_of : ∀ i, i < ops.size → i ∉ X → (∀ j ∈ waits ops i, j ∈ X) → i ∈ Region.ready .any ops listed := fun i hi hm hw => h.ready hi hm hw
  by_cases hF : ∃ f ∈ NL S R, f ∉ X ∧ flOk ops R f = true ∧ ∀ j ∈ waits ops f, j ∈ X
  ·obtain ⟨f, hfN, hfX, hfl, hfw⟩ := hF
   have hfs : f < ops.size := by rw [← hd.len]; exact (mem_NL.1 hfN).1
   have hrd := ready_of f hfs hfX hfw
   obtain ⟨h1, h2, o, ho, h3⟩ := h.next hrd
   obtain ⟨r, hr, hres⟩ := hd.res f o ho
   unfold flOk at hfl
   rw [ho, hr] at hfl
   simp only [bA, Option.isNone_iff_eq_none, List.all_eq_true, List.mem_range] at hfl
   obtain ⟨⟨hg0, hfl⟩, hap⟩ := hfl
   obtain ⟨op, hop, hrop, hQ, hdst, hdl, ⟨g, hat⟩, hget, hqq⟩ := at_soundE hd h hX hfN hr hres hfw hfX hs
   have hstep := hd.step f r hfN hr
   unfold StepDet at hstep
   rw [hg0] at hstep
   have hq' := hqq hstep
   rw [hrop] at hq' hfl
   obtain ⟨v, hv⟩ := float_yields hop hfl hat hq'
   have hgo : o.guard = none := by
    have hres0 := hres
    unfold resRO at hres0
    simp only [oD, oB, guard_some] at hres0
    obtain ⟨_, _, _, _, _, _, hres0⟩ := hres0
    split at hres0
    ·assumption
    ·simp only [oB, oP, oS] at hres0
     obtain ⟨_, _, _, _, hres0⟩ := hres0
     rw [← hres0] at hg0
     cases hg0
   have hwt : Region.wanted o (yielded ops a.tmps) = true := by simp [Region.wanted, hgo]
   have hnext : Sat n0 S0 M0 w0 (execL st (dOf R) V (f :: X)) (a.put o.dst v) w := by
    have := one_soundE (Q := fun _ _ _ => False) hd h hX hfN ho hr hres hfw hfX hs
    unfold wpOp at this
    rw [ho] at this
    simp only [hwt, if_true] at this
    rcases this with h4 | ⟨_, a', w', h4⟩
    ·unfold Oper.wp at h4
     rw [hv w] at h4
     exact h4
    ·exact h4.elim
   refine wpAny_first ho (Region.noSelect_spec hns) (fun c a w hh => absurd hh.1 (by simp)) fuel listed a w ?_ hrd (.inl ⟨hwt, hv⟩) (ih (f :: X) _ _ w h1 (fun i hi => (List.mem_cons.1 hi).elim (fun e => e ▸ hfN) (hX i)) (by simp only [lK]; omega) hnext)
   intro j oj hj hne hun hno
   have hjs := (Array.getElem?_eq_some_iff.1 hj).1
   have := hap j hjs
   rw [hj] at this
   simp only [Bool.or_eq_true, beq_iff_eq, hne, false_or, List.contains_eq_mem, decide_eq_true_eq] at this
   rcases this with h4 | h4 | h4
   ·exact absurd ((h.li j hjs).2 (hfw j h4)) (by rw [hun]; simp)
   ·simp only [waits, hj, direct] at h4
    obtain ⟨x, hx, hxe⟩ := List.mem_map.1 h4
    obtain ⟨hx1, hx2⟩ := List.mem_filter.1 hx
    exact absurd hxe (hno x (by simpa using hx1) hx2)
   ·exact h4
  ·have eready : (∀ j ∈ waits ops e, j ∈ X) → False := by
    intro hw
    have hnf : ∀ m i, i ∈ NL S R → i ∉ L → R.length - i ≤ m → flOk ops R i = false → i ∈ X := by
     intro m
     induction m with
     | zero => intro i hi _ hm _; have := (mem_NL.1 hi).1; omega
     | succ m ihm =>
      intro i hi hiL hm hfl
      rcases hcov i hi hiL with h1 | h1 | ⟨k, hk, hkL, h1, h2, h3⟩
      ·rw [hfl] at h1; cases h1
      ·exact hw i h1
      ·exact h.closed k (ihm k hk hkL (by omega) h2) i h3
    refine hall ?_
    intro i
    induction i using Nat.strongRecOn with
    | ind i ihi =>
     intro hi hiL
     cases hfl : flOk ops R i with
     | false => exact hnf _ i hi hiL (Nat.le_refl _) hfl
     | true =>
      refine Classical.byContradiction fun hne => hF ⟨i, hi, hne, hfl, fun j hj => ihi j (hd.acyc i j hj) (hd.nw i hi j hj) (hup i hi hiL j hj)⟩
   refine ⟨fun h0 => ?_, fun i hi => ?_⟩
   ·exfalso
    refine hall ?_
    intro i
    induction i using Nat.strongRecOn with
    | ind i ihi =>
     intro hi hiL
     refine Classical.byContradiction fun hne => ?_
     have := ready_of i (by rw [← hd.len]; exact (mem_NL.1 hi).1) hne fun j hj => ihi j (hd.acyc i j hj) (hd.nw i hi j hj) (hup i hi hiL j hj)
     rw [h0] at this
     cases this
   ·obtain ⟨h1, h2, o, ho, h3⟩ := h.next hi
    have his := (Array.getElem?_eq_some_iff.1 ho).1
    have hiN : i ∈ NL S R := by
     have hiR : i < R.length := by rw [hd.len]; exact his
     refine mem_NL.2 ⟨hiR, ?_⟩
     cases hq : S.contains i with
     | true => rfl
     | false =>
      exfalso
      have hm : i ∈ e :: es := by rw [← hE]; exact mem_EL.2 ⟨hiR, hq⟩
      rcases List.mem_cons.1 hm with rfl | hm
      ·exact eready h3
      ·obtain ⟨q, hq1, hq2⟩ := List.mem_iff_getElem.1 hm
       have hw := (chain_spec hch).2 q (by simp; omega)
       have e1 : (e :: es)[q + 1]'(by simp; omega) = i := by simpa using hq2
       rw [e1] at hw
       have hpre : (e :: es)[q]'(by simp; omega) ∈ EL S R := by rw [hE]; exact List.getElem_mem _
       have h4 := (mem_NL.1 (hX _ (h3 _ hw))).2
       rw [(mem_EL.1 hpre).2] at h4
       cases h4
    obtain ⟨r, hr, hres⟩ := hd.res i o ho
    refine wpOp_mono ?_ (one_soundE hd h hX hiN ho hr hres h3 h2 hs)
    intro a' w' hs'
    exact ih (i :: X) _ a' w' h1 (fun j hj => (List.mem_cons.1 hj).elim (fun e => e ▸ hiN) (hX j)) (by simp only [lK]; omega) hs'

def lateL (ops : Array Oper) (R : List RO) (S : List Nat) (e : Nat) : List Nat :=
 let A := ancs ops e
 let B := (List.range R.length).foldl (fun acc i => if A.contains i || (flOk ops R i && (waits ops i).all (fun j => acc.contains j)) then i :: acc else acc) []
 (NL S R).filter fun i => !B.contains i
def lateOk1 (ops : Array Oper) (R : List RO) (L es : List Nat) (l : Nat) (ol : Oper) (r : RO) : Bool :=
 ol.guard.isNone && r.g.isNone && r.op.isSt &&
  (L.all fun j => (waits ops l).contains j || (match dstOf ops j with | some d => !(ol.looksAt ops).contains d | none => true)) &&
  (L.all fun j => j == l || (match dstOf ops l with | some d => dstOf ops j != some d | none => true)) &&
  (es.all fun x => (waits ops x).contains l || (match ops[x]? with | some ox => ol.apart ops ox | none => true))
def lateOkB (ops : Array Oper) (R : List RO) (S L es : List Nat) : Bool :=
 L.all fun l => S.contains l && decide (l < R.length) && (match ops[l]?, R[l]? with
  | some ol, some r => lateOk1 ops R L es l ol r
  | _, _ => false)
def drawOkL (ops : Array Oper) (R : List RO) : Bool :=
 let S := nset ops R
 noDup (R.filterMap (·.op.dst)) && (R.length == ops.size) && Region.noSelect ops &&
 match EL S R with
 | [] => false
 | e :: es =>
  let L := lateL ops R S e
  chainOk ops (e :: es) && chksEnd ops L (e :: es) && lateOkB ops R S L (e :: es) && (List.range R.length).all fun i =>
   (waits ops i).all (· < i) && (!S.contains i || (isQi R i && (waits ops i).all (fun j => S.contains j) && (match R[i]? with | some r => r.slots.all (slotOk ops R i) | none => true) &&
    (L.contains i || ((waits ops i).all (fun j => !L.contains j) && (flOk ops R i || (waits ops e).contains i || (List.range R.length).any fun k => decide (i < k) && S.contains k && !L.contains k && !flOk ops R k && (waits ops k).contains i)))))
def ordN (ops : Array Oper) (R : List RO) : List RO := (NL (nset ops R) R).map fun i => R.getD i default
def ordC (ops : Array Oper) (R : List RO) : List (List ROp × RO) :=
 match EL (nset ops R) R with
 | [] => []
 | e :: es => chksR ops R (lateL ops R (nset ops R) e) (e :: es)

theorem draw_soundL {st : St} {K : Exit → St → Prop} {id : Nat} {a : Act} {w : World} (hm : P.follows .mixedOrders = true) (hd : drawOkL ops R = true)
  (hR : ops.toList.mapM (resRO P wv st.n ops) = some R) (hs : Sat n0 S0 M0 w0 st a w) (hq : vcOps P (ordN ops R) st (fun _ s => vcEs P (ordC ops R) s K)) : (Code.region id ops true).wp P (Post n0 S0 M0 w0 st.n K) a w := by
 refine wp_mono (Q := fun e a w => e = .normal ∧ Post n0 S0 M0 w0 st.n K e a w) (wp_region_any hm ?_) (fun e a w h => h.2)
 unfold drawOkL at hd
 unfold ordN ordC at hq
 generalize nset ops R = S at hd hq
 simp only [bA, beq_iff_eq] at hd
 obtain ⟨⟨⟨d1, d2⟩, d3⟩, hd⟩ := hd
 cases hE : EL S R with
 | nil => rw [hE] at hd; cases hd
 | cons e es =>
  rw [hE] at hd hq
  simp only at hd hq
  generalize lateL ops R S e = L at hd hq
  simp only [bA, List.all_eq_true, List.mem_range, decide_eq_true_eq] at hd
  obtain ⟨⟨⟨hch, hce⟩, hlo⟩, hall⟩ := hd
  have hNQ : ∀ r ∈ (NL S R).map (fun i => R.getD i default), r.op.isQ = true := by
   intro r hr
   obtain ⟨i, hi, rfl⟩ := List.mem_map.1 hr
   obtain ⟨h1, h2⟩ := mem_NL.1 hi
   have h3 := (hall i h1).2
   rw [h2] at h3
   simp only [bT, Bool.false_or, bA] at h3
   have h4 := h3.1.1.1
   simpa [isQi, List.getD_eq_getElem?_getD, h1] using h4
  obtain ⟨rl, s', hx, hK, hl⟩ := lex_of_vc hNQ hq
  obtain ⟨g, hu, hv⟩ := hs.gh
  have hnd := sorted_nodup (NL_sorted S R)
  have hV : (NL S R).map (fun i => rl.getD ((NL S R).idxOf i) (.any, [])) = rl := by
   apply List.ext_getElem
   ·simp at hl; simp [hl]
   ·intro p h1 h2
    have hp : p < (NL S R).length := by simpa using h1
    simp [List.getD_eq_getElem?_getD, List.Nodup.idxOf_getElem hnd p hp, h2]
  generalize hVd : (fun i => rl.getD ((NL S R).idxOf i) ((.any, []) : Rs)) = V at hV
  have hD : ∀ i ∈ NL S R, dOf R i = (R.getD i default).op.dst := by
   intro i hi
   have hlt := (mem_NL.1 hi).1
   simp [dOf, List.getD_eq_getElem?_getD, hlt]
  obtain ⟨e1, hst⟩ := lexI (D := dOf R) (V := V) (st0 := st) (L := []) hD hx rfl hV
  simp only [List.append_nil] at e1 hst
  have lt_of : ∀ {i : Nat} {r : RO}, R[i]? = some r → i < R.length := fun h => (List.getElem?_eq_some_iff.1 h).1
  have hwall : ∀ i, ∀ j ∈ waits ops i, j < i := by
   intro i j hj
   by_cases hi : i < R.length
   ·exact (hall i hi).1 j hj
   ·have : ops[i]? = none := by simp; omega
    simp [waits, this] at hj
  have hN : ∀ i ∈ NL S R, ((isQi R i = true ∧ (waits ops i).all (fun j => S.contains j) = true) ∧ (match R[i]? with | some r => r.slots.all (slotOk ops R i) | none => true) = true) ∧
    (L.contains i || ((waits ops i).all (fun j => !L.contains j) && (flOk ops R i || (waits ops e).contains i || (List.range R.length).any fun k => decide (i < k) && S.contains k && !L.contains k && !flOk ops R k && (waits ops k).contains i))) = true := by
   intro i hi
   obtain ⟨h1, h2⟩ := mem_NL.1 hi
   have := (hall i h1).2
   rw [h2] at this
   simpa only [bT, Bool.false_or, bA] using this
  have hDE : DrawnE P wv ops R st V S (NL S R) := by
   refine ⟨d2, ?_, dOf_inj (noDup_spec d1), hwall, fun i => mem_NL, fun i hi => (hN i hi).1.1.1, hnd, ?_, ?_, ?_, ?_⟩
   ·intro i o ho
    exact mapM_get hR i o (by simpa using ho)
   ·intro i hi j hj
    have h1 := (hN i hi).1.1.2
    rw [List.all_eq_true] at h1
    have h2 := hwall i j hj
    have h3 := (mem_NL.1 hi).1
    exact mem_NL.2 ⟨by omega, h1 j hj⟩
   ·intro i r t hi hr ht j hj
    have h2 := (hN i hi).1.2
    rw [hr] at h2
    simp only [List.all_eq_true] at h2
    have hs := h2 t ht
    unfold slotOk at hs
    simp only [List.all_eq_true, List.mem_range] at hs
    simp only [dOf, oB] at hj
    obtain ⟨x, hx, hd⟩ := hj
    have := hs j (lt_of hx)
    rw [hx] at this
    simpa [hd] using this
   ·intro i r hi hr
    obtain ⟨p, hp, rfl⟩ := List.mem_iff_getElem.1 hi
    have := hst p hp
    rw [take_bef (NL_sorted S R) p hp] at this
    rw [List.getD_eq_getElem?_getD, hr] at this
    exact this
   ·rw [← e1]
    exact lex_nodup hx hu.keys
  have hlo' : ∀ l ∈ L, l ∈ NL S R ∧ ∃ ol r, ops[l]? = some ol ∧ R[l]? = some r ∧ ol.guard = none ∧ r.g = none ∧ r.op.isSt = true ∧ (∀ j ∈ L, j ∈ waits ops l ∨ ∀ d, dstOf ops j = some d → d ∉ ol.looksAt ops) ∧
    (∀ j ∈ L, j ≠ l → ∀ t, dstOf ops l = some t → dstOf ops j ≠ some t) ∧ (∀ x ∈ e :: es, l ∈ waits ops x ∨ ∀ ox, ops[x]? = some ox → ol.apart ops ox = true) := by
   intro l hl
   unfold lateOkB at hlo
   rw [List.all_eq_true] at hlo
   have h := hlo l hl
   simp only [bA, decide_eq_true_eq] at h
   obtain ⟨⟨h1, h2⟩, h3⟩ := h
   refine ⟨mem_NL.2 ⟨h2, h1⟩, ?_⟩
   split at h3
   ·next ol r ho hr =>
    unfold lateOk1 at h3
    simp only [bA, List.all_eq_true, Option.isNone_iff_eq_none] at h3
    obtain ⟨⟨⟨⟨⟨h4, h5⟩, h6⟩, h7⟩, h8⟩, h9⟩ := h3
    refine ⟨ol, r, ho, hr, h4, h5, h6, ?_, ?_, ?_⟩
    ·intro j hj
     have := h7 j hj
     rw [Bool.or_eq_true] at this
     rcases this with h | h
     ·exact .inl (by simpa using h)
     ·refine .inr fun d hd => ?_
      rw [hd] at h
      simpa using h
    ·intro j hj hne t ht
     have := h8 j hj
     rw [Bool.or_eq_true] at this
     rcases this with h | h
     ·exact absurd (by simpa using h) hne
     ·rw [ht] at h
      simpa using h
    ·intro x hx
     have := h9 x hx
     rw [Bool.or_eq_true] at this
     rcases this with h | h
     ·exact .inl (by simpa using h)
     ·refine .inr fun ox hox => ?_
      rw [hox] at h
      exact h
   ·cases h3
  have hLO : LateOk ops R L := by
   refine ⟨fun l hl => ?_, fun l hl ol ho j hj => ?_, fun i hi j hj hne t ht => ?_⟩
   ·obtain ⟨_, ol, r, h1, h2, h3, h4, h5, _⟩ := hlo' l hl
    exact ⟨ol, r, h1, h2, h3, h4, h5⟩
   ·obtain ⟨_, ol', r, h1, _, _, _, _, h6, _⟩ := hlo' l hl
    rw [ho] at h1; injection h1 with h1; subst h1
    exact h6 j hj
   ·obtain ⟨_, ol', r, h1, _, _, _, _, _, h7, _⟩ := hlo' i hi
    exact h7 j hj hne t ht
  have hc : Come P ops R [] (Array.replicate ops.size false) := ⟨List.nodup_nil, by simp, by simp, by simp, fun j hj => by simp [Array.getD_eq_getD_getElem?, hj]⟩
  refine drawnL_any hDE hE hch d3 hLO (fun l hl => (hlo' l hl).1) hce ?_ ?_ ?_ (by rw [← e1]; exact hK) ops.size [] _ a _ hc (by simp) (by simp) ⟨hs.ms, hs.dfr, hs.tm, hs.base, hs.os, hs.tape, hs.output, hs.size, hs.old, hs.gh⟩
  ·intro l hl x hx
   obtain ⟨_, ol', r, h1, _, _, _, _, _, _, h8⟩ := hlo' l hl
   refine (h8 x hx).imp (fun h => h) fun h ol oe ho hoe => ?_
   rw [ho] at h1; injection h1 with h1; subst h1
   exact h oe hoe
  ·intro i hi hiL j hj
   have := (hN i hi).2
   simp only [Bool.or_eq_true, List.contains_eq_mem, decide_eq_true_eq, hiL, false_or, bA, List.all_eq_true] at this
   have := this.1 j hj
   simpa using this
  ·intro i hi hiL
   have := (hN i hi).2
   simp only [Bool.or_eq_true, List.contains_eq_mem, decide_eq_true_eq, hiL, false_or, bA] at this
   have := this.2
   simp only [List.any_eq_true, List.mem_range, bA, decide_eq_true_eq, Bool.not_eq_true', decide_eq_false_iff_not] at this
   rcases this with (h1 | h1) | ⟨k, hk, ⟨⟨⟨h1, h2⟩, h3⟩, h4⟩, h5⟩
   ·exact .inl h1
   ·exact .inr (.inl h1)
   ·exact .inr (.inr ⟨k, mem_NL.2 ⟨hk, by simpa using h2⟩, h3, h1, h4, h5⟩)

end Go.Ax
namespace Go.Ax
set_option linter.unusedSimpArgs false

variable {P : Program} {wv : Wv} {n0 : Nat} {S0 M0 : Nat → Prop} {w0 : World}
variable [Gk P n0 M0 w0]

def resD (P : Program) (wv : Wv) (n : Nat) : Code → Option RC
 | .skip => some .skip
 | .region _ ops draw => do
  let R ← ops.toList.mapM (resRO P wv n ops)
  if (!draw || drawOk ops R) = true then pure (.reg draw R)
  else if drawOkE ops R = true then pure (.reg draw (ordE ops R))
  else if (draw && drawOkL ops R) = true then pure (.regL (ordN ops R) (ordC ops R))
  else none
 | .seq a b => do pure (.seq (← resD P wv n a) (← resD P wv n b))
 | .cond c a b => do pure (.cond (← resX P 0 c) (← resD P wv n a) (← resD P wv n b))
 | .block id c => do pure (.blk id (← resD P wv n c))
 | .loop c => do pure (.loop (← resD P wv n c))
 | .exit id => some (.exit id)
 | .ret => some .ret
 | c => some (.other c)

theorem vcR_sound (hm : P.follows .mixedOrders = true) : ∀ (c : Code) (rc : RC) (st : St) (K : Exit → St → Prop) (a : Act) (w : World), resD P wv st.n c = some rc → Sat n0 S0 M0 w0 st a w → vcR P rc st K →
  c.wp P (Post n0 S0 M0 w0 st.n K) a w := by
 intro c
 induction c with
 | skip =>
  intro rc st K a w hr hs hq
  simp only [resD, oS] at hr
  subst hr
  exact wp_skip ⟨st, rfl, hq, hs⟩
 | region id ops draw =>
  intro rc st K a w hr hs hq
  simp only [resD, oD, oB] at hr
  obtain ⟨R, hR, hr⟩ := hr
  split at hr
  ·next hd =>
   simp only [oP, oS] at hr
   subst hr
   cases draw with
   | true => exact draw_sound hm (by simpa using hd) hR hs hq
   | false =>
    refine wp_region ?_
    have := wpOps_sound (P := P) (ops := ops) (K := K) ops.toList R 0 st a w (by simp) hR hs hq
    simpa [List.range_eq_range'] using this
  ·next hd =>
   split at hr
   ·next hd2 =>
    simp only [oP, oS] at hr
    subst hr
    cases draw with
    | true => exact draw_soundE hm hd2 hR hs hq
    | false => simp at hd
   ·split at hr
    ·next hd3 =>
     simp only [oP, oS] at hr
     subst hr
     simp only [bA] at hd3
     obtain ⟨rfl, hd3⟩ := hd3
     exact draw_soundL hm hd3 hR hs hq
    ·cases hr
 | seq x y ihx ihy =>
  intro rc st K a w hr hs hq
  simp only [resD, oD, oB, oP, oS] at hr
  obtain ⟨x', hx, y', hy, rfl⟩ := hr
  refine wp_seq (wp_mono (ihx x' st _ a w hx hs hq) ?_)
  rintro e a1 w1 ⟨s1, hn, hk, hs1⟩
  cases e with
  | normal =>
   have := ihy y' s1 K a1 w1 (by rw [hn]; exact hy) hs1 hk
   rw [hn] at this
   exact this
  | exit i => exact ⟨s1, hn, hk, hs1⟩
  | goto l => exact ⟨s1, hn, hk, hs1⟩
  | ret => exact ⟨s1, hn, hk, hs1⟩
  | panic c => exact ⟨s1, hn, hk, hs1⟩
  | outgrown => exact ⟨s1, hn, hk, hs1⟩
 | cond x p q ihp ihq =>
  intro rc st K a w hr hs hq
  simp only [resD, oD, oB, oP, oS] at hr
  obtain ⟨X, hX, p', hp, q', hq', rfl⟩ := hr
  obtain ⟨g, hu, hv⟩ := hs.gh
  have he := evRep hv hX
  simp only [vcR] at hq
  unfold condK at hq
  split at hq
  ·next tk t hc =>
   rw [hc] at he
   have hval := sc_val he
   refine wp_cond_split hval (fun e => ihp p' st K a w hp hs (hq.1 e)) (fun e => ihq q' st K a w hq' hs (hq.2 e))
  ·exact hq.elim
 | block id c ih =>
  intro rc st K a w hr hs hq
  simp only [resD, oD, oB, oP, oS] at hr
  obtain ⟨c', hc, rfl⟩ := hr
  refine wp_block (wp_mono (ih c' st _ a w hc hs hq) ?_)
  rintro e a1 w1 ⟨s1, hn, hk, hs1⟩
  cases e with
  | exit i =>
   simp only [kblk] at hk
   simp only [Exit.inBlock]
   split
   ·next h => rw [if_pos h] at hk; exact ⟨s1, hn, hk, hs1⟩
   ·next h => rw [if_neg h] at hk; exact ⟨s1, hn, hk, hs1⟩
  | normal => exact ⟨s1, hn, hk, hs1⟩
  | goto l => exact ⟨s1, hn, hk, hs1⟩
  | ret => exact ⟨s1, hn, hk, hs1⟩
  | panic c => exact ⟨s1, hn, hk, hs1⟩
  | outgrown => exact ⟨s1, hn, hk, hs1⟩
 | loop c ih =>
  intro rc st K a w hr hs hq
  simp only [resD, oD, oB, oP, oS] at hr
  obtain ⟨c', hc, rfl⟩ := hr
  obtain ⟨I, ⟨m0, s, hE, hI⟩, hround⟩ := hq
  have tmn : ∀ {s : St} {a : Act} {w : World} {n : Nat}, Sat n0 S0 M0 w0 s a w → a.tmps.size = n → s.n = n := fun h e => h.tm.symm.trans e
  refine wp_loop_ghost (fun m a w => ∃ s, I m s ∧ s.n = st.n ∧ Sat n0 S0 M0 w0 s a w) m0 ⟨s, hI, tmn (hE _ _ _ _ _ _ hs) hs.tm, hE _ _ _ _ _ _ hs⟩ ?_
  rintro m a1 w1 ⟨s1, h1, hn1, hs1⟩
  have := ih c' s1 _ a1 w1 (by rw [hn1]; exact hc) hs1 (hround m s1 h1)
  rw [hn1] at this
  refine wp_mono this ?_
  rintro e a2 w2 ⟨s2, hn, hk, hs2⟩
  cases e with
  | normal =>
   obtain ⟨m', s3, h3, h4, h5⟩ := hk
   exact ⟨m', h5, s3, h4, tmn (h3 _ _ _ _ _ _ hs2) (hs2.tm.trans hn), h3 _ _ _ _ _ _ hs2⟩
  | exit i => exact ⟨s2, hn, hk, hs2⟩
  | goto l => exact ⟨s2, hn, hk, hs2⟩
  | ret => exact ⟨s2, hn, hk, hs2⟩
  | panic c => exact ⟨s2, hn, hk, hs2⟩
  | outgrown => exact ⟨s2, hn, hk, hs2⟩
 | exit id =>
  intro rc st K a w hr hs hq
  simp only [resD, oS] at hr
  subst hr
  exact wp_exit ⟨st, rfl, hq, hs⟩
 | ret =>
  intro rc st K a w hr hs hq
  simp only [resD, oS] at hr
  subst hr
  exact wp_ret ⟨st, rfl, hq, hs⟩
 | _ =>
  intro rc st K a w hr hs hq
  simp only [resD, oS] at hr
  subst hr
  exact hq.elim

end Go.Ax
namespace Go.Ax
set_option linter.unusedSimpArgs false

variable {P : Program} {wv : Wv} {n0 : Nat} {S0 M0 : Nat → Prop} {w0 : World}
variable [Gk P n0 M0 w0]

def argEnv : Nat → List D → List (Nat × AV)
 | _, [] => []
 | i, d :: ds => (i, .im none d) :: argEnv (i + 1) ds
def st0 (n : Nat) (ds : List D) : St := ⟨n, argEnv 0 ds, []⟩

mutual

def D.bd : D → Prop
 | .ag ds => D.bdL ds
 | .ls _ sz ds => ds.length ≤ maxEl ∧ (∀ d ∈ ds, d.size = sz) ∧ D.bdL ds
 | .pt d _ => d.bd
 | .lc _ _ d => d.bd
 | _ => True
def D.bdL : List D → Prop
 | [] => True
 | d :: ds => d.bd ∧ D.bdL ds
end

mutual
theorem Rep.bd {h : Heap} : ∀ {d F cs}, Rep h d F cs → d.bd
 | .sc _, _, _, _ => by simp [D.bd]
 | .jk, _, _, _ => by simp [D.bd]
 | .fn _ _, _, _, _ => by simp [D.bd]
 | .ag ds, _, _, hr => by simp only [Rep] at hr; simp only [D.bd]; exact RepL.bd hr.2
 | .ls _ _ ds, _, _, hr => by
  simp only [Rep] at hr
  simp only [D.bd]
  rcases hr with ⟨_, _, rfl, _⟩ | ⟨b, off, cap, c, e, fr, F', _, _, _, _, h1, _, _, h2, h3⟩
  ·simp [D.bdL]
  ·exact ⟨h1, h2, RepL.bd h3⟩
 | .pt _ _, _, _, hr => by
  simp only [Rep] at hr
  obtain ⟨b, off, c, e, fr, F', _, _, _, _, _, h⟩ := hr
  simp only [D.bd]
  exact Rep.bd h
 | .lc _ _ _, _, _, hr => by
  simp only [Rep] at hr
  simp only [D.bd]
  exact Rep.bd hr.2
theorem RepL.bd {h : Heap} : ∀ {ds F cs}, RepL h ds F cs → D.bdL ds
 | [], _, _, _ => by simp [D.bdL]
 | d :: ds, _, _, hr => by
  simp only [RepL] at hr
  obtain ⟨F1, F2, c1, c2, rfl, rfl, h1, h2⟩ := hr
  simp only [D.bdL]
  exact ⟨Rep.bd h1, RepL.bd h2⟩
end

theorem args_bd {h : Heap} {old : Nat → Prop} : ∀ {ds : List D} {vs : List Value}, ArgsRep h old ds vs → D.bdL ds
 | [], _, _ => by simp [D.bdL]
 | d :: ds, vs, hr => by
  simp only [ArgsRep] at hr
  obtain ⟨v, r, F, rfl, h1, _, _, h2⟩ := hr
  simp only [D.bdL]
  exact ⟨h1.bd, args_bd h2⟩

theorem args_len {h : Heap} {old : Nat → Prop} : ∀ {ds : List D} {vs : List Value}, ArgsRep h old ds vs → vs.length = ds.length
 | [], vs, hr => by simp only [ArgsRep] at hr; simp [hr]
 | d :: ds, vs, hr => by
  simp only [ArgsRep] at hr
  obtain ⟨v, r, F, rfl, _, _, _, h2⟩ := hr
  simp [args_len h2]

theorem args_env {h : Heap} {old : Nat → Prop} {us : List (Nat × U)} {g : Gh} (hg : ∀ b, b < h.size → old b → g.Sh b) : ∀ {ds : List D} {vs : List Value} (i : Nat), ArgsRep h old ds vs → ∀ t,
  (∀ d, lk (argEnv i ds) t = d → d = .any ∨ ∃ v, vs[t - i]? = some v ∧ i ≤ t ∧ VRep h us g d v)
 | [], _, i, _, t => by intro d hd; simp [argEnv, lk] at hd; exact .inl hd.symm
 | d :: ds, vs, i, hr, t => by
  simp only [ArgsRep] at hr
  obtain ⟨v, r, F, rfl, h1, h2, h3, h4⟩ := hr
  intro e he
  simp only [argEnv, lk] at he
  split at he
  ·next hi =>
   subst hi; subst he
   exact .inr ⟨v, by simp, Nat.le_refl _, by simp only [VRep]; exact ⟨F, h1, h2, fun b hb => .inl (hg b (h1.lt b hb) (h3 b hb))⟩⟩
  ·next hi =>
   rcases args_env hg (i + 1) h4 t e he with h | ⟨v', hv, hle, hr⟩
   ·exact .inl h
   ·refine .inr ⟨v', ?_, by omega, hr⟩
    rw [show t - i = (t - (i + 1)) + 1 by omega]
    simpa using hv

theorem sat_start {w : World} {old : Nat → Prop} {ds : List D} {vs : List Value} {n : Nat} (ha : ArgsRep w.heap old ds vs) (hn : ds.length ≤ n) :
  Sat w.heap.size old (fun _ => False) w (st0 n ds) { tmps := vs.toArray ++ Array.replicate (n - vs.toArray.size) undef, defers := [] } w := by
 have hl := args_len ha
 refine ⟨fun _ _ h => h.elim, rfl, by simp [st0]; omega, rfl, rfl, rfl, rfl, Nat.le_refl _, fun _ _ _ => rfl, ?_⟩
 let g : Gh := ⟨fun _ => none, fun _ => [], fun _ => undef, fun _ => 0, fun b => b < w.heap.size ∧ old b⟩
 refine ⟨g, ⟨by simp [st0], by simp [st0, fp], by simp [st0, fp], by simp [st0, fp], fun _ _ => rfl, fun b hb => ⟨hb.1, fun _ => hb.2, by simp [st0, fp]⟩, by simp [st0], by simp [st0, fp], by intro k v _ h; simp [st0] at h⟩, fun t => ?_⟩
 rcases args_env (us := []) (g := g) (fun b h1 h2 => ⟨h1, h2⟩) 0 ha t _ rfl with h | ⟨v, hv, _, hr⟩
 ·simp only [st0]
  rw [h]
  simp [VRep]
 ·have hlt : t < vs.length := (List.getElem?_eq_some_iff.1 hv).1
  have e : (vs.toArray ++ Array.replicate (n - vs.toArray.size) undef).getD t undef = v := by
   rw [Array.getD_eq_getD_getElem?, Array.getElem?_append_left (by simpa using hlt)]
   simp at hv
   simp [hv]
  rw [e]
  exact hr

inductive RV where
 | t (n : Nat)
 | c (n sz : Nat) (agg : Bool)

def resRV (P : Program) : ResultVar → Option RV
 | .tmp t => some (.t t)
 | .cell a t => do let s ← szOf P t; let g ← aggOf P t; guard ((g || s == 1) = true); pure (.c a s g)

def rvK (st : St) (x : RV) (k : AV → Prop) : Prop :=
 match x with
 | .t n => k (st.get n)
 | .c n sz agg => ldK (st.get n) st.unit agg sz (fun av _ => k av)
def rvsK (st : St) : List RV → (List AV → Prop) → Prop
 | [], k => k []
 | x :: xs, k => rvK st x fun av => rvsK st xs fun avs => k (av :: avs)

def retO (d : D) (k : St → Prop) (own : Bool) (d' : D) (st' : St) : Prop := own = true ∧ d'.Le d ∧ k st'
def retS (d : D) (k : St → Prop) (_own : Bool) (d' : D) (st' : St) : Prop := d'.Le d ∧ k st'

def takeRt (st : St) (v : AV) (k : KT) : Prop :=
 match v with
 | .vb i len => takeN 12 st (.vb i len) k
 | v => takeA st v k
theorem takeRt_ok : TakeOk (n0 := n0) (S0 := S0) (M0 := M0) takeRt := by
 intro _ _ _ _ h0 av _ _ _ _ T hr hk
 cases av with
 | vb i len => exact takeN_ok 12 h0 T hr hk
 | _ => exact takeA_ok h0 T hr hk
def ret1 (st : St) (av : AV) (r : Ret) (k : St → Prop) : Prop :=
 match r with
 | .own d => takeRt st av (retO d k)
 | .sh d => takeA st av (retS d k)
 | _ => False
def retL : List AV → List Ret → St → Prop
 | [], [], _ => True
 | av :: avs, r :: rs, st => ret1 st av r (retL avs rs)
 | _, _, _ => False
def retU (u : Option U) (sz len : Nat) (es : List D) : Prop := match u with | some (.ar true nn sz' es') => nn = some false ∧ sz' = sz ∧ es' = es ∧ len = es.length | _ => False
def retV (un : Nat → Option U) (sz : Nat) (es : List D) : List AV → Prop
 | [.sm id 0 len] => retU (un id) sz len es
 | _ => False
def retPU (u : Option U) (d : D) : Prop := match u with | some (.ar false _ _ es) => es = [d] | _ => False
def retP (un : Nat → Option U) (d : D) : List AV → Prop
 | [.pw id 0 0] => retPU (un id) d
 | _ => False
def retB (xs : List RV) (st : St) (r : Ret) (avs : List AV) : Prop :=
 match r with
 | .tup rs => xs.length ≠ 1 ∧ retL avs rs st
 | .arr sz es => xs.length = 1 ∧ retV st.unit sz es avs
 | .bxs d => xs.length = 1 ∧ retP st.unit d avs
 | r => xs.length = 1 ∧ retL avs [r] st
def retK (xs : List RV) (r : Ret) (st : St) : Prop := rvsK st xs (retB xs st r)

def retE (xs : List RV) (r : Ret) (e : Exit) (st : St) : Prop :=
 match e with
 | .normal => retK xs r st
 | .ret => retK xs r st
 | _ => False

theorem D.Le.refl (d : D) : d.Le d := ⟨fun _ _ _ h => h, fun _ h => h⟩

theorem ret_list {h : Heap} {st1 : St} {tm : Nat → Value} {g0 : Gh} (h0 : USat h n0 S0 M0 st1.us g0) : ∀ {avs : List AV} {vs : List Value} {rs : List Ret} {st : St} {g : Gh}, Took h n0 S0 M0 st1 st tm g0 g → VRepL h st1.us g0 avs vs → retL avs rs st →
  ∃ F G, RetRepL h rs F G vs ∧ F.Nodup ∧ (∀ b ∈ F, ¬ g.Sh b ∧ b ∈ fp g st.us ∧ b ∉ G) ∧ ∀ b ∈ G, g.Sh b ∨ b ∈ fp g st.us
 | [], vs, rs, st, g, T, hr, hk => by
  simp only [VRepL] at hr
  subst hr
  cases rs with
  | nil => exact ⟨[], [], by simp [RetRepL], List.nodup_nil, by simp, by simp⟩
  | cons => simp [retL] at hk
 | av :: avs, vs, rs, st, g, T, hr, hk => by
  simp only [VRepL] at hr
  obtain ⟨v, vs', rfl, hv, hvs⟩ := hr
  cases rs with
  | nil => simp [retL] at hk
  | cons r rs =>
   simp only [retL] at hk
   unfold ret1 at hk
   split at hk
   ·next d =>
    obtain ⟨own, d', st', g', F1, ⟨rfl, hle, hk'⟩, T', r1, r2, ⟨o1, _⟩, hsh, hfp⟩ := takeRt_ok h0 T hv hk
    obtain ⟨on, o2⟩ := o1 rfl
    obtain ⟨F2, G2, p1, p2, p3, p4⟩ := ret_list h0 T' hvs hk'
    refine ⟨F1 ++ F2, G2, ?_, ?_, ?_, ?_⟩
    ·simp only [RetRepL]
     exact ⟨F1, F2, [], G2, v, vs', rfl, rfl, rfl, by simp only [RetRep]; exact ⟨trivial, hle.1 _ _ _ r1, hle.2 _ r2⟩, p1⟩
    ·refine List.nodup_append.2 ⟨on, p2, fun x hx y hy e => ?_⟩
     subst e
     exact (o2 x hx).2.2.1 (p3 x hy).2.1
    ·intro b hb
     rcases List.mem_append.1 hb with hb | hb
     ·obtain ⟨_, q1, q2, q3⟩ := o2 b hb
      refine ⟨fun hs => q1 ((hsh b).2 hs), q3, fun hg => ?_⟩
      rcases p4 b hg with h | h
      ·exact q1 h
      ·exact q2 h
     ·obtain ⟨q1, q2, q3⟩ := p3 b hb
      exact ⟨fun hs => q1 ((hsh b).2 hs), hfp b q2, q3⟩
    ·intro b hb
     rcases p4 b hb with h | h
     ·exact .inl ((hsh b).1 h)
     ·exact .inr (hfp b h)
   ·next d =>
    obtain ⟨own, d', st', g', F1, ⟨hle, hk'⟩, T', r1, r2, ⟨o1, o2⟩, hsh, hfp⟩ := takeA_ok h0 T hv hk
    obtain ⟨F2, G2, p1, p2, p3, p4⟩ := ret_list h0 T' hvs hk'
    refine ⟨F2, F1 ++ G2, ?_, p2, ?_, ?_⟩
    ·simp only [RetRepL]
     exact ⟨[], F2, F1, G2, v, vs', rfl, rfl, rfl, by simp only [RetRep]; exact ⟨trivial, hle.1 _ _ _ r1, hle.2 _ r2⟩, p1⟩
    ·intro b hb
     obtain ⟨q1, q2, q3⟩ := p3 b hb
     refine ⟨fun hs => q1 ((hsh b).2 hs), hfp b q2, fun hm => ?_⟩
     rcases List.mem_append.1 hm with hm | hm
     ·cases own with
      | true => exact ((o1 rfl).2 b hm).2.2.1 q2
      | false => exact q1 (o2 rfl b hm)
     ·exact q3 hm
    ·intro b hb
     rcases List.mem_append.1 hb with hb | hb
     ·cases own with
      | true => exact .inr ((o1 rfl).2 b hb).2.2.2
      | false => exact .inl ((hsh b).1 (o2 rfl b hb))
     ·rcases p4 b hb with h | h
      ·exact .inl ((hsh b).1 h)
      ·exact .inr (hfp b h)
   ·exact hk.elim

def rvVal (tmps : Array Value) : ResultVar → Sem Value
 | .tmp t => pure (tmps.getD t undef)
 | .cell a t => do loadVar t (← asAddr (tmps.getD a undef))

theorem loadAt_eq {t : TypeId} {v r : Value} {w : World} (h : (Instr.loadAt t v).run P w = .ok r w) (hp : ∃ a, v = .pointer (some a)) : ((asAddr v >>= fun a => loadVar t a)).run P w = .ok r w := by
 obtain ⟨a, rfl⟩ := hp
 simpa [Instr.loadAt, Instr.sureAddr, asAddr] using h

theorem ldK_ptr {us : List (Nat × U)} {h : Heap} {g : Gh} {av : AV} {v : Value} {un : Nat → Option U} {agg : Bool} {sz : Nat} {k : KQ} (hr : VRep h us g av v) (hq : ldK av un agg sz k) : ∃ a, v = .pointer (some a) := by
 unfold ldK at hq
 split at hq
 ·simp only [VRep, Rep] at hr
  obtain ⟨F, ⟨b, off, c, e, fr, F', r1, _⟩, f1, _⟩ := hr
  rw [cells_one (by simpa [D.fits] using f1)] at r1
  exact ⟨_, by simpa using r1⟩
 ·simp only [VRep, Rep] at hr
  obtain ⟨F, ⟨_, b, off, c, e, fr, F', r1, _⟩, f1, _⟩ := hr
  rw [cells_one (by simpa [D.fits] using f1)] at r1
  exact ⟨_, by simpa using r1⟩
 ·simp only [VRep] at hr
  obtain ⟨_, _, _, _, _, _, _, _, _, hv⟩ := hr
  exact ⟨_, hv⟩
 ·simp only [VRep] at hr
  obtain ⟨_, _, _, _, _, _, _, _, _, _, _, _, _, _, _, _, _, hv⟩ := hr
  exact ⟨_, hv⟩
 ·simp only [VRep] at hr
  obtain ⟨_, _, _, _, _, hv⟩ := hr
  exact ⟨_, hv⟩
 ·exact hq.elim

theorem rvs_run {st : St} {w : World} {g : Gh} {tmps : Array Value} (hu : USat w.heap n0 S0 M0 st.us g) (hv : ∀ t, VRep w.heap st.us g (lk st.env t) (tmps.getD t undef)) : ∀ {l : List ResultVar} {xs : List RV} {k : List AV → Prop},
  l.mapM (resRV P) = some xs → rvsK st xs k → ∃ avs vs, (l.mapM (rvVal tmps)).run P w = .ok vs w ∧ VRepL w.heap st.us g avs vs ∧ k avs ∧ vs.length = l.length
 | [], xs, k, hl, hk => by
  simp at hl
  subst hl
  exact ⟨[], [], by simp, by simp [VRepL], hk, rfl⟩
 | x :: l, xs, k, hl, hk => by
  simp only [List.mapM_cons, oD, oB, oP, oS] at hl
  obtain ⟨x', hx, xs', hxs, rfl⟩ := hl
  simp only [rvsK] at hk
  have one : ∀ {k : AV → Prop}, rvK st x' k → ∃ av v, (rvVal tmps x).run P w = .ok v w ∧ VRep w.heap st.us g av v ∧ k av := by
   intro k hk
   cases x with
   | tmp t =>
    simp only [resRV, oS] at hx
    subst hx
    exact ⟨_, _, by simp [rvVal], hv t, hk⟩
   | cell a t =>
    simp only [resRV, oD, oB, oP, oS, guard_some] at hx
    obtain ⟨s, hs, agg, hagg, _, h1, rfl⟩ := hx
    simp only [rvK] at hk
    obtain ⟨av, v, h2, h3, h4⟩ := ld_core (P := P) (w := w) hu hs hagg (by intro e; simpa [e] using h1) (hv a) hk
    exact ⟨av, v, loadAt_eq h2 (ldK_ptr (hv a) hk), h3, h4⟩
  obtain ⟨av, v, h1, h2, h3⟩ := one hk
  obtain ⟨avs, vs, h4, h5, h6, h7⟩ := rvs_run hu hv hxs h3
  refine ⟨av :: avs, v :: vs, ?_, ?_, h6, by simp [h7]⟩
  ·rw [List.mapM_cons]
   simp [Sem.run_bind, h1, h4, Result.andThen]
  ·simp only [VRepL]
   exact ⟨v, vs, rfl, h2, h5⟩

theorem results_eq {fn : Func} {tmps : Array Value} {w : World} {vs : List Value} (h : (fn.results.toList.mapM (rvVal tmps)).run P w = .ok vs w) :
  (results fn tmps).run P w = .ok (if h : vs.length = 1 then vs[0] else .tuple vs.toArray) w := by
 have e : results fn tmps = (do let vs ← fn.results.mapM (rvVal tmps); pure (if h : vs.size = 1 then vs[0] else .tuple vs)) := by
  unfold results
  congr 1
 rw [e, Array.mapM_eq_mapM_toList]
 simp [h, Result.andThen]

theorem lu_mem' : ∀ {us : List (Nat × U)} {k : Nat} {u : U}, lu us k = some u → (k, u) ∈ us
 | [], _, _, h => by cases h
 | (i, v) :: r, k, u, h => by
  simp only [lu] at h
  split at h
  ·next e => subst e; cases h; exact List.mem_cons_self
  ·exact List.mem_cons_of_mem _ (lu_mem' h)

theorem af_of {f : Nat} {fn : Func} {c : Code} {rc : RC} {xs : List RV} {ds : List D} {r : Ret} (hm : P.follows .mixedOrders = true) (hf : P.funcs[f]? = some fn) (hb : fn.body = some c) (hname : (fn.name == "runtime.NumGoroutine") = false)
  (hres : resD P wv fn.ntmps c = some rc) (hxs : fn.results.toList.mapM (resRV P) = some xs) (hn : ds.length ≤ fn.ntmps) (hq : D.bdL ds → vcR P rc (st0 fn.ntmps ds) (retE xs r)) : AF P f ds r := by
 refine ⟨⟨fn, hf, by simp [hb], hname⟩, fun w vs old hwk ha => ?_⟩
 haveI : Gk P w.heap.size (fun _ => False) w := ⟨hwk, fun g hg => ⟨hwk.lt g hg, fun h => h⟩⟩
 refine calls_of_wp hf hb ?_
 have hs := sat_start ha hn
 have := vcR_sound hm c rc (st0 fn.ntmps ds) _ _ w hres hs (hq (args_bd ha))
 refine wp_mono this ?_
 rintro e a' w' ⟨st, hstn, hk, hs'⟩
 have hxl : xs.length = fn.results.toList.length := (mapM_len hxs)
 have key : retK xs r st → a'.defers = [] ∧ ∃ v, (results fn a'.tmps).run P w' = .ok v w' ∧
   (∃ v' F G, Ending.returned v = .returned v' ∧ Go.RowKit.Below w.heap.size w w' ∧ RetRep w'.heap r F G v' ∧ F.Nodup ∧ (∀ b ∈ F, w.heap.size ≤ b ∧ b ∉ G ∧ Unf w'.heap b) ∧ ∀ b ∈ G, (w.heap.size ≤ b ∧ b < w'.heap.size) ∨ old b) := by
  intro hk
  refine ⟨hs'.dfr, ?_⟩
  obtain ⟨g, hu, hv⟩ := hs'.gh
  obtain ⟨avs, vs', h1, h2, h3, h4⟩ := rvs_run (P := P) hu hv hxs hk
  refine ⟨_, results_eq h1, ?_⟩
  have hB : Go.RowKit.Below w.heap.size w w' := ⟨hs'.os, hs'.tape, hs'.output, hs'.size, fun k hk => hs'.old k hk (by simp)⟩
  have fin : ∀ {rs : List Ret}, retL avs rs st → ∃ F G, RetRepL w'.heap rs F G vs' ∧ F.Nodup ∧ (∀ b ∈ F, w.heap.size ≤ b ∧ b ∉ G ∧ Unf w'.heap b) ∧ ∀ b ∈ G, (w.heap.size ≤ b ∧ b < w'.heap.size) ∨ old b := by
   intro rs hL
   obtain ⟨F, G, q1, q2, q3, q4⟩ := ret_list hu (Took.refl hu hv) h2 hL
   have ge : ∀ b, b ∈ fp g st.us → w.heap.size ≤ b := fun b hb => Nat.le_of_not_lt fun hlt => hu.low b hb hlt
   refine ⟨F, G, q1, q2, fun b hb => ⟨ge b (q3 b hb).2.1, (q3 b hb).2.2, hu.fz b (q3 b hb).2.1⟩, fun b hb => ?_⟩
   rcases q4 b hb with h | h
   ·obtain ⟨p1, p2, _⟩ := hu.sh b h
    by_cases hlt : b < w.heap.size
    ·exact .inr (p2 hlt)
    ·exact .inl ⟨by omega, p1⟩
   ·exact .inl ⟨ge b h, hu.lt b h⟩
  have single : ∀ {r : Ret}, retL avs [r] st → xs.length = 1 → ∃ v' F G, Ending.returned (if h : vs'.length = 1 then vs'[0] else .tuple vs'.toArray) = .returned v' ∧ Go.RowKit.Below w.heap.size w w' ∧ RetRep w'.heap r F G v' ∧ F.Nodup ∧ (∀ b ∈ F, w.heap.size ≤ b ∧ b ∉ G ∧ Unf w'.heap b) ∧ ∀ b ∈ G, (w.heap.size ≤ b ∧ b < w'.heap.size) ∨ old b := by
   intro r hL hx1
   obtain ⟨F, G, q1, q2, q3, q4⟩ := fin hL
   simp only [RetRepL] at q1
   obtain ⟨F1, F2, G1, G2, v, ws, rfl, rfl, rfl, hr, hF2, hG2, hws⟩ := q1
   subst hF2; subst hG2; subst hws
   exact ⟨v, F1, G1, by simp, hB, hr, by simpa using q2, by simpa using q3, by simpa using q4⟩
  unfold retB at h3
  split at h3
  ·next rs =>
   obtain ⟨F, G, q1, q2, q3, q4⟩ := fin h3.2
   refine ⟨_, F, G, by rw [dif_neg (by rw [h4, ← hxl]; exact h3.1)], hB, ?_, q2, q3, q4⟩
   simp only [RetRep]
   exact ⟨_, rfl, by simpa using q1⟩
  ·next sz es =>
   obtain ⟨hx1, hV⟩ := h3
   unfold retV at hV
   split at hV
   ·next id len =>
    unfold retU at hV
    split at hV
    ·next nn sz' es' hun =>
     obtain ⟨rfl, rfl, rfl, rfl⟩ := hV
     have hm := lu_mem' hun
     simp only [VRepL] at h2
     obtain ⟨v, r, rfl, hv2, rfl⟩ := h2
     obtain ⟨q1, q2, q3⟩ := hu.each _ hm
     rcases q3 with ⟨_, _, _, hbad⟩ | ⟨b, c, e, G, cs, rest, p1, p2, p3, p4, p5, p6, p7, p8⟩
     ·exact absurd rfl hbad
     simp only [if_true] at p8
     simp only [VRep] at hv2
     obtain ⟨ow, nn, sz2, es2, hm2, hle, hv3⟩ := hv2
     have hsame := hu.uniq hm hm2
     cases hsame
     have hin : ∀ x ∈ b :: G, x ∈ fp g st.us := fun x hx => mem_fp.2 ⟨_, hm, by rw [p8]; exact hx⟩
     rcases hv3 with ⟨b', hb', rfl⟩ | ⟨hbad, _⟩
     ·rw [p1] at hb'; cases hb'
      refine ⟨_, b :: G, [], by simp; rfl, hB, ?_, ?_, fun x hx => ⟨Nat.le_of_not_lt fun hlt => hu.low x (hin x hx) hlt, by simp, hu.fz x (hin x hx)⟩, by simp⟩
      ·simp only [RetRep]
       exact ⟨trivial, q1, q2, b, c, e, G, cs, rest, g.cap id, by simp, rfl, p2, p3, p4, p5, p6⟩
      ·have hq := hu.nodup
       have : (g.φ id).Nodup := phi_nodup hu hm
       rw [p8] at this
       exact this
     ·rw [p1] at hbad; cases hbad
    ·exact hV.elim
   ·exact hV.elim
  ·next d _ =>
   obtain ⟨hx1, hV⟩ := h3
   unfold retP at hV
   split at hV
   ·next id =>
    unfold retPU at hV
    split at hV
    ·next nn sz' es' hun =>
     subst hV
     have hm := lu_mem' hun
     simp only [VRepL] at h2
     obtain ⟨v, r, rfl, hv2, rfl⟩ := h2
     obtain ⟨q1, q2, q3⟩ := hu.each _ hm
     rcases q3 with ⟨_, hbad, _⟩ | ⟨b, c, e, G, cs, rest, p1, p2, p3, p4, p5, p6, p7, p8⟩
     ·cases hbad
     simp only [bF, if_false] at p8
     simp only [VRep] at hv2
     obtain ⟨ow, nn, sz2, es2, b', hm2, hl1, hl2, hb', hv3⟩ := hv2
     have hsame := hu.uniq hm hm2
     cases hsame
     rw [p1] at hb'; cases hb'
     have hd : d.size = sz' := q2 d (by simp)
     simp only [RepL] at p6
     obtain ⟨F1, F2, x1, x2, rfl, rfl, p6, rfl, rfl⟩ := p6
     have hbin : b ∈ fp g st.us := mem_fp.2 ⟨_, hm, by rw [p8.1]; simp⟩
     refine ⟨_, [b], F1, by simp; rfl, hB, ?_, by simp, fun x hx => ?_, fun x hx => ?_⟩
     ·simp only [RetRep]
      exact ⟨by omega, b, c, e, x1, rest, g.cap id, by rw [hv3]; simp, rfl, p2, by simpa using p3, by rw [hd]; exact p4, by simpa using p5, p6⟩
     ·rw [List.mem_singleton.1 hx]
      exact ⟨Nat.le_of_not_lt fun hlt => hu.low b hbin hlt, fun hx => (hu.sh b (p8.2 b (by simp [hx]))).2.2 hbin, hu.fz b hbin⟩
     ·obtain ⟨z1, z2, _⟩ := hu.sh x (p8.2 x (by simp [hx]))
      by_cases hlt : x < w.heap.size
      ·exact .inr (z2 hlt)
      ·exact .inl ⟨by omega, z1⟩
    ·exact hV.elim
   ·exact hV.elim
  ·exact single h3.2 h3.1
 cases e with
 | normal => exact key hk
 | ret => exact key hk
 | exit i => exact hk.elim
 | goto l => exact hk.elim
 | panic c => exact hk.elim
 | outgrown => exact hk.elim

end Go.Ax
namespace Go.Ax

def resFw (P : Program) (wv : Wv) (f : Nat) : Option (Nat × RC × List RV) := do
 let fn ← P.funcs[f]?
 let c ← fn.body
 guard (!(fn.name == "runtime.NumGoroutine") = true)
 let rc ← resD P wv fn.ntmps c
 let xs ← fn.results.toList.mapM (resRV P)
 pure (fn.ntmps, rc, xs)

def resF (P : Program) (f : Nat) : Option (Nat × RC × List RV) := resFw P .no f

theorem af_of_resw {P : Program} {wv : Wv} {f n : Nat} {rc : RC} {xs : List RV} (h : resFw P wv f = some (n, rc, xs)) (hm : P.follows .mixedOrders = true) {ds : List D} {r : Ret} (hn : decide (ds.length ≤ n) = true) (hq : D.bdL ds → vcR P rc (st0 n ds) (retE xs r)) : AF P f ds r := by
 unfold resFw at h
 simp only [oD, oB, oP, oS, guard_some, Prod.mk.injEq] at h
 obtain ⟨fn, hf, c, hb, _, hname, rc', hres, xs', hxs, rfl, rfl, rfl⟩ := h
 exact af_of hm hf hb (by simpa using hname) hres hxs (by simpa using hn) hq

theorem af_of_res {P : Program} {f n : Nat} {rc : RC} {xs : List RV} (h : resF P f = some (n, rc, xs)) (hm : P.follows .mixedOrders = true) {ds : List D} {r : Ret} (hn : decide (ds.length ≤ n) = true) (hq : D.bdL ds → vcR P rc (st0 n ds) (retE xs r)) : AF P f ds r :=
 af_of_resw h hm hn hq

@[go_sem] theorem argEnv_nil {i : Nat} : argEnv i [] = [] := rfl
@[go_sem] theorem argEnv_cons {i : Nat} {d : D} {ds : List D} : argEnv i (d :: ds) = (i, .im none d) :: argEnv (i + 1) ds := rfl
@[go_sem] theorem st0_eq {n : Nat} {ds : List D} : st0 n ds = ⟨n, argEnv 0 ds, []⟩ := rfl
@[go_sem] theorem retE_normal {xs : List RV} {r : Ret} {st : St} : retE xs r .normal st = retK xs r st := rfl
@[go_sem] theorem retE_ret {xs : List RV} {r : Ret} {st : St} : retE xs r .ret st = retK xs r st := rfl
@[go_sem] theorem retE_exit {xs : List RV} {r : Ret} {st : St} {i : Nat} : retE xs r (.exit i) st = False := rfl
@[go_sem] theorem retK_eq {xs : List RV} {r : Ret} {st : St} : retK xs r st = rvsK st xs (retB xs st r) := rfl
@[go_sem] theorem rvsK_nil {st : St} {k : List AV → Prop} : rvsK st [] k = k [] := rfl
@[go_sem] theorem rvsK_cons {st : St} {x : RV} {xs : List RV} {k : List AV → Prop} : rvsK st (x :: xs) k = rvK st x fun av => rvsK st xs fun avs => k (av :: avs) := rfl
@[go_sem] theorem rvK_t {st : St} {n : Nat} {k : AV → Prop} : rvK st (.t n) k = k (st.get n) := rfl
@[go_sem] theorem rvK_c {st : St} {n sz : Nat} {agg : Bool} {k : AV → Prop} : rvK st (.c n sz agg) k = ldK (st.get n) st.unit agg sz (fun av _ => k av) := rfl
@[go_sem] theorem retB_own {x : RV} {st : St} {d : D} {avs : List AV} : retB [x] st (.own d) avs = retL avs [.own d] st := by simp [retB]
@[go_sem] theorem retB_sh {x : RV} {st : St} {d : D} {avs : List AV} : retB [x] st (.sh d) avs = retL avs [.sh d] st := by simp [retB]
@[go_sem] theorem retB_bxs {x : RV} {st : St} {d : D} {avs : List AV} : retB [x] st (.bxs d) avs = retP st.unit d avs := by simp [retB]
@[go_sem] theorem retP_pw {un : Nat → Option U} {d : D} {id : Nat} : retP un d [.pw id 0 0] = retPU (un id) d := rfl
@[congr] theorem retPU_cg {u u' : Option U} {d : D} (h : u = u') : retPU u d = retPU u' d := by rw [h]
@[go_sem] theorem retPU_ar {nn : Option Bool} {sz : Nat} {es : List D} {d : D} : retPU (some (.ar false nn sz es)) d = (es = [d]) := rfl
@[go_sem] theorem retB_arr {x : RV} {st : St} {sz : Nat} {es : List D} {avs : List AV} : retB [x] st (.arr sz es) avs = retV st.unit sz es avs := by simp [retB]
@[go_sem] theorem retV_sm {un : Nat → Option U} {sz : Nat} {es : List D} {id len : Nat} : retV un sz es [.sm id 0 len] = retU (un id) sz len es := rfl
@[congr] theorem retU_cg {u u' : Option U} {sz len : Nat} {es : List D} (h : u = u') : retU u sz len es = retU u' sz len es := by rw [h]
@[go_sem] theorem retU_ar {nn : Option Bool} {sz' : Nat} {es' : List D} {sz len : Nat} {es : List D} : retU (some (.ar true nn sz' es')) sz len es = (nn = some false ∧ sz' = sz ∧ es' = es ∧ len = es.length) := rfl
@[go_sem] theorem retB_tup {x y : RV} {xs : List RV} {st : St} {rs : List Ret} {avs : List AV} : retB (x :: y :: xs) st (.tup rs) avs = retL avs rs st := by simp [retB]
@[go_sem] theorem retL_nil {st : St} : retL [] [] st = True := rfl
@[go_sem] theorem retL_cons {av : AV} {avs : List AV} {r : Ret} {rs : List Ret} {st : St} : retL (av :: avs) (r :: rs) st = ret1 st av r (retL avs rs) := rfl
@[go_sem] theorem ret1_own {st : St} {av : AV} {d : D} {k : St → Prop} : ret1 st av (.own d) k = takeRt st av (retO d k) := rfl
@[congr] theorem takeRt_cg {st st' : St} {v v' : AV} {k : KT} (h : st = st') (h' : v = v') : takeRt st v k = takeRt st' v' k := by rw [h, h']
@[go_sem] theorem takeRt_vb {st : St} {i len : Nat} {k : KT} : takeRt st (.vb i len) k = takeN 12 st (.vb i len) k := rfl
@[go_sem] theorem takeRt_im {st : St} {t : Option Nat} {d : D} {k : KT} : takeRt st (.im t d) k = takeA st (.im t d) k := rfl
@[go_sem] theorem takeRt_tr {st : St} {i : Nat} {k : KT} : takeRt st (.tr i) k = takeA st (.tr i) k := rfl
@[go_sem] theorem takeRt_sm {st : St} {i off len : Nat} {k : KT} : takeRt st (.sm i off len) k = takeA st (.sm i off len) k := rfl
@[go_sem] theorem takeRt_cw {st : St} {i el j sz : Nat} {agg : Bool} {k : KT} : takeRt st (.cw i el j sz agg) k = takeA st (.cw i el j sz agg) k := rfl
@[go_sem] theorem takeRt_sg {st : St} {vs : List AV} {k : KT} : takeRt st (.sg vs) k = takeA st (.sg vs) k := rfl
@[go_sem] theorem ret1_sh {st : St} {av : AV} {d : D} {k : St → Prop} : ret1 st av (.sh d) k = takeA st av (retS d k) := rfl
@[go_sem] theorem retO_eq {d : D} {k : St → Prop} {own : Bool} {d' : D} {st' : St} : retO d k own d' st' = (own = true ∧ d'.Le d ∧ k st') := rfl
@[go_sem] theorem retS_eq {d : D} {k : St → Prop} {own : Bool} {d' : D} {st' : St} : retS d k own d' st' = (d'.Le d ∧ k st') := rfl
@[go_sem] theorem Le_refl_eq {d : D} : D.Le d d = True := eq_true (D.Le.refl d)

theorem D.Le.sc_eq {a b : Value} (h : a = b) : D.Le (.sc a) (.sc b) := h ▸ D.Le.refl _

end Go.Ax
namespace Go.Ax
set_option linter.unusedSimpArgs false

variable {P : Program} {wv : Wv} {n0 : Nat} {S0 M0 : Nat → Prop} {w0 : World}
variable [Gk P n0 M0 w0]

def argEnvW : Nat → List AV → List (Nat × AV)
 | _, [] => []
 | i, a :: as => (i, a) :: argEnvW (i + 1) as
def stW (n : Nat) (us : List U) (as : List AV) : St := ⟨n, argEnvW 0 as, wids 0 us⟩

theorem argsW_env {h : Heap} {us : List (Nat × U)} {g : Gh} : ∀ {as : List AV} {vs : List Value} (i : Nat), VRepL h us g as vs → ∀ t,
  (∀ d, lk (argEnvW i as) t = d → d = .any ∨ ∃ v, vs[t - i]? = some v ∧ i ≤ t ∧ VRep h us g d v)
 | [], _, i, _, t => by intro d hd; simp [argEnvW, lk] at hd; exact .inl hd.symm
 | a :: as, vs, i, hr, t => by
  simp only [VRepL] at hr
  obtain ⟨v, r, rfl, h1, h4⟩ := hr
  intro e he
  simp only [argEnvW, lk] at he
  split at he
  ·next hi =>
   subst hi; subst he
   exact .inr ⟨v, by simp, Nat.le_refl _, h1⟩
  ·next hi =>
   rcases argsW_env (i + 1) h4 t e he with h | ⟨v', hv, hle, hr⟩
   ·exact .inl h
   ·refine .inr ⟨v', ?_, by omega, hr⟩
    rw [show t - i = (t - (i + 1)) + 1 by omega]
    simpa using hv
theorem vrepl_len {h : Heap} {us : List (Nat × U)} {g : Gh} : ∀ {as : List AV} {vs : List Value}, VRepL h us g as vs → vs.length = as.length
 | [], vs, hr => by simp only [VRepL] at hr; simp [hr]
 | a :: as, vs, hr => by
  simp only [VRepL] at hr
  obtain ⟨v, r, rfl, _, h2⟩ := hr
  simp [vrepl_len h2]

def pinM (n0 : Nat) (us : List U) (g : Gh) (b : Nat) : Prop :=
 (b < n0 ∧ b ∈ fp g (wids 0 us)) ∨ (∃ k v, k < us.length ∧ g.β (3000000000 + k) = some v ∧ b = n0 + (16 * v + k)) ∨ (∃ k, k < us.length ∧ b = n0 + (16 * g.cap (3000000000 + k) + (8 + k)))

theorem sat_startW {w : World} {old : Nat → Prop} {us : List U} {as : List AV} {vs : List Value} {n : Nat} {g : Gh} (hW : WSat w.heap old us g) (ha : VRepL w.heap (wids 0 us) g as vs) (hn : as.length ≤ n) (h8 : us.length ≤ 8) :
  Sat w.heap.size (fun b => old b ∨ b ∈ fp g (wids 0 us)) (pinM w.heap.size us g) w (stW n us as) { tmps := vs.toArray ++ Array.replicate (n - vs.toArray.size) undef, defers := [] } w := by
 have hl := vrepl_len ha
 refine ⟨fun b hb hm => ?_, rfl, by simp [stW]; omega, rfl, rfl, rfl, rfl, Nat.le_refl _, fun _ _ _ => rfl, g, ⟨wids_nodup, hW.nodup, hW.lt, fun b hb hlt => .inl ⟨hlt, hb⟩, hW.dead, fun b hb => ⟨(hW.sh b hb).1, fun _ => .inl (hW.sh b hb).2.1, (hW.sh b hb).2.2⟩, hW.each, hW.fz, ?_⟩, fun t => ?_⟩
 ·rcases hm with ⟨_, h⟩ | ⟨k, v, _, _, rfl⟩ | ⟨k, _, rfl⟩
  ·exact .inr h
  ·omega
  ·omega
 ·intro k v hk _
  refine ⟨fun hm => ?_, fun hm _ => ?_⟩
  ·rcases hm with ⟨h, _⟩ | ⟨k', v', hk', h, e⟩ | ⟨k', hk', e⟩
   ·omega
   ·have : k' = k := by omega
    subst this
    have : v' = v := by omega
    subst this
    exact h
   ·omega
  ·rcases hm with ⟨h, _⟩ | ⟨k', v', hk', h, e⟩ | ⟨k', hk', e⟩
   ·omega
   ·omega
   ·have : k' = k := by omega
    subst this
    omega
 ·rcases argsW_env 0 ha t _ rfl with h | ⟨v, hv, _, hr⟩
  ·simp only [stW]
   rw [h]
   simp [VRep]
  ·have hlt : t < vs.length := (List.getElem?_eq_some_iff.1 hv).1
   have e : (vs.toArray ++ Array.replicate (n - vs.toArray.size) undef).getD t undef = v := by
    rw [Array.getD_eq_getD_getElem?, Array.getElem?_append_left (by simpa using hlt)]
    simp at hv
    simp [hv]
   rw [e]
   exact hr

def bdU : U → Prop
 | .ar _ _ _ es => D.bdL es
 | .own d => d.bd
 | .bx _ _ => True
 | .sb _ _ _ => True
def bdWs : List U → Prop
 | [] => True
 | u :: r => bdU u ∧ bdWs r
def bdA : AV → Prop
 | .im _ d => d.bd
 | _ => True
def bdAs : List AV → Prop
 | [] => True
 | a :: r => bdA a ∧ bdAs r
theorem bdAs_of {h : Heap} {us : List (Nat × U)} {g : Gh} : ∀ {as : List AV} {vs : List Value}, VRepL h us g as vs → bdAs as
 | [], _, _ => by simp [bdAs]
 | a :: as, vs, hr => by
  simp only [VRepL] at hr
  obtain ⟨v, r, rfl, h1, h2⟩ := hr
  refine ⟨?_, bdAs_of h2⟩
  cases a with
  | im t d => simp only [VRep] at h1; obtain ⟨F, q, _⟩ := h1; exact q.bd
  | _ => simp [bdA]
theorem bdWs_of {us : List U} (H : ∀ u ∈ us, bdU u) : bdWs us := by
 induction us with
 | nil => simp [bdWs]
 | cons u r ih => exact ⟨H u (by simp), ih fun v hv => H v (by simp [hv])⟩
theorem WSat.bd {h : Heap} {old : Nat → Prop} {us : List U} {g : Gh} (hW : WSat h old us g) : bdWs us := by
 refine bdWs_of fun u hu => ?_
 obtain ⟨i, hi, rfl⟩ := List.getElem_of_mem hu
 have hm : (3000000000 + (0 + i), us[i]) ∈ wids 0 us := mem_wids.2 ⟨i, us[i], by simp [hi], rfl⟩
 have ho := hW.each _ hm
 generalize us[i] = u at ho
 cases u with
 | ar ow nn sz es =>
  simp only [UOk] at ho
  simp only [bdU]
  rcases ho.2.2 with ⟨_, rfl, _⟩ | ⟨b, c, e, G, cs, rest, _, _, _, _, _, k6, _⟩
  ·simp [D.bdL]
  ·exact k6.bd
 | own d =>
  simp only [UOk] at ho
  exact ho.2.1.bd
 | bx sz items => simp [bdU]
 | sb T E s => simp [bdU]

def retW1 (st : St) (av : AV) (r : Ret) (k : St → Prop) : Prop :=
 match r with
 | .own d => takeRt st av (retO d k)
 | _ => False
def retWL (k : St → Prop) : List AV → List Ret → St → Prop
 | [], [], st => k st
 | av :: avs, r :: rs, st => retW1 st av r (retWL k avs rs)
 | _, _, _ => False
def endU (u : Option U) (x : U) : Prop :=
 match u, x with
 | some (.ar ow nn sz es), .ar ow' nn' sz' es' => ow = ow' ∧ nn = none ∧ nn' = none ∧ sz = sz' ∧ es = es'
 | some (.bx sz items), .bx sz' items' => sz = sz' ∧ items = items'
 | some (.sb T E s), .sb T' E' s' => T = T' ∧ E = E' ∧ s = s'
 | _, _ => False
def endUs (st : St) : Nat → List U → Prop
 | _, [] => True
 | i, x :: r => endU (st.unit (3000000000 + i)) x ∧ endUs st (i + 1) r
def retWB (xs : List RV) (us' : List U) (st : St) (r : Ret) (avs : List AV) : Prop :=
 match r with
 | .tup rs => xs.length ≠ 1 ∧ retWL (fun st => endUs st 0 us') avs rs st
 | r => xs.length = 1 ∧ retWL (fun st => endUs st 0 us') avs [r] st
def retWK (xs : List RV) (us' : List U) (r : Ret) (st : St) : Prop := rvsK st xs (retWB xs us' st r)
def retWE (xs : List RV) (us' : List U) (r : Ret) (e : Exit) (st : St) : Prop :=
 match e with
 | .normal => retWK xs us' r st
 | .ret => retWK xs us' r st
 | _ => False

def okUs (m : Nat) : List U → Bool
 | [] => true
 | .bx _ items :: r => okWL m items && okUs m r
 | _ :: r => okUs m r
theorem okUs_mem {m : Nat} : ∀ {us : List U}, okUs m us = true → ∀ sz items, U.bx sz items ∈ us → okWL m items = true
 | [], _, _, _, h => by cases h
 | u :: r, h, sz, items, hm => by
  cases u with
  | bx sz' items' =>
   simp only [okUs, bA] at h
   rcases List.mem_cons.1 hm with e | hm
   ·cases e; exact h.1
   ·exact okUs_mem h.2 sz items hm
  | _ =>
   simp only [okUs] at h
   rcases List.mem_cons.1 hm with e | hm
   ·cases e
   ·exact okUs_mem h sz items hm
def pinUs : List U → List U → Bool
 | _, [] => true
 | u :: r, _ :: r' => u.isPin && pinUs r r'
 | [], _ :: _ => false
theorem pinUs_spec : ∀ {us us' : List U}, pinUs us us' = true → us'.length ≤ us.length ∧ ∀ i (h : i < us'.length), ∃ u, us[i]? = some u ∧ u.isPin = true
 | us, [], _ => by simp
 | [], _ :: _, h => by cases h
 | u :: r, u' :: r', h => by
  simp only [pinUs, bA] at h
  obtain ⟨h1, h2⟩ := pinUs_spec h.2
  refine ⟨by simp [h1], fun i hi => ?_⟩
  cases i with
  | zero => exact ⟨u, rfl, h.1⟩
  | succ i =>
   obtain ⟨v, q1, q2⟩ := h2 i (by simpa using hi)
   exact ⟨v, by simpa using q1, q2⟩
mutual
theorem okW_rep {h : Heap} {us us2 : List (Nat × U)} {g : Gh} {m : Nat} (hA : ∀ k, 3000000000 ≤ k → k < 3000000000 + m → ∀ u, (k, u) ∈ us → (k, u) ∈ us2) : ∀ {av : AV} {v : Value}, av.okW m = true → VRep h us g av v → VRep h us2 g av v
 | .im none d, v, ho, hr => by simpa only [VRep] using hr
 | .im (some t) d, v, ho, hr => by simp [AV.okW] at ho
 | .pw k el j, v, ho, hr => by
  simp only [AV.okW, bA, decide_eq_true_eq] at ho
  simp only [VRep] at hr ⊢
  obtain ⟨ow, nn, sz, es, b, r1, r2, r3, r4, r5⟩ := hr
  exact ⟨_, _, _, _, b, hA k ho.1 ho.2 _ r1, r2, r3, r4, r5⟩
 | .pb k j, v, ho, hr => by
  simp only [AV.okW, bA, decide_eq_true_eq] at ho
  simp only [VRep] at hr ⊢
  obtain ⟨sz, items, b, r1, r2, r3⟩ := hr
  exact ⟨_, _, b, hA k ho.1 ho.2 _ r1, r2, r3⟩
 | .cl f vs, v, ho, hr => by
  simp only [AV.okW] at ho
  simp only [VRep] at hr ⊢
  obtain ⟨xs, r1, r2⟩ := hr
  exact ⟨xs, okWL_rep hA ho r1, r2⟩
 | .sg vs, v, ho, hr => by
  simp only [AV.okW] at ho
  simp only [VRep] at hr ⊢
  obtain ⟨xs, r1, r2⟩ := hr
  exact ⟨xs, okWL_rep hA ho r1, r2⟩
 | .tr _, v, ho, hr => by simp [AV.okW] at ho
 | .cw _ _ _ _ _, v, ho, hr => by simp [AV.okW] at ho
 | .sm _ _ _, v, ho, hr => by simp [AV.okW] at ho
 | .vb _ _, v, ho, hr => by simp [AV.okW] at ho
 | .tup _, v, ho, hr => by simp [AV.okW] at ho
 | .any, v, ho, hr => by simp [AV.okW] at ho
 | .ps _, v, ho, hr => by simp [AV.okW] at ho
 | .pq _ _ _ _ _ _, v, ho, hr => by simp [AV.okW] at ho
 | .qs _ _ _ _ _ _, v, ho, hr => by simp [AV.okW] at ho
 | .ss _ _ _, v, ho, hr => by simp [AV.okW] at ho
 | .z0 _ _, v, ho, hr => by simp [AV.okW] at ho
theorem okWL_rep {h : Heap} {us us2 : List (Nat × U)} {g : Gh} {m : Nat} (hA : ∀ k, 3000000000 ≤ k → k < 3000000000 + m → ∀ u, (k, u) ∈ us → (k, u) ∈ us2) : ∀ {avs : List AV} {vs : List Value}, okWL m avs = true → VRepL h us g avs vs → VRepL h us2 g avs vs
 | [], vs, _, hr => by simpa [VRepL] using hr
 | a :: as, vs, ho, hr => by
  simp only [okWL, bA] at ho
  simp only [VRepL] at hr ⊢
  obtain ⟨v, r, rfl, h1, h2⟩ := hr
  exact ⟨v, r, rfl, okW_rep hA ho.1 h1, okWL_rep hA ho.2 h2⟩
end

theorem endUs_spec {st : St} : ∀ {us' : List U} {n : Nat}, endUs st n us' → ∀ x ∈ wids n us', x ∈ st.us ∧ x.2.isPin = true
 | [], _, _, x, hx => by simp [wids] at hx
 | u :: r, n, h, x, hx => by
  simp only [wids, List.mem_cons] at hx
  rcases hx with rfl | hx
  ·have := h.1
   unfold endU at this
   split at this
   ·next ow nn sz es ow' nn' sz' es' hun =>
    obtain ⟨rfl, rfl, rfl, rfl, rfl⟩ := this
    exact ⟨lu_mem' hun, rfl⟩
   ·next sz items sz' items' hun =>
    obtain ⟨rfl, rfl⟩ := this
    exact ⟨lu_mem' hun, rfl⟩
   ·next T E s T' E' s' hun =>
    obtain ⟨rfl, rfl, rfl⟩ := this
    exact ⟨lu_mem' hun, rfl⟩
   ·exact this.elim
  ·exact endUs_spec h.2 x hx

theorem retW_list {h : Heap} {st1 : St} {tm : Nat → Value} {g0 : Gh} {k : St → Prop} (h0 : USat h n0 S0 M0 st1.us g0) : ∀ {avs : List AV} {vs : List Value} {rs : List Ret} {st : St} {g : Gh}, Took h n0 S0 M0 st1 st tm g0 g → VRepL h st1.us g0 avs vs → retWL k avs rs st →
  ∃ F st' g', Took h n0 S0 M0 st1 st' tm g0 g' ∧ k st' ∧ RetRepL h rs F [] vs ∧ F.Nodup ∧ (∀ b ∈ F, ¬ g.Sh b ∧ b ∈ fp g st.us ∧ b ∉ fp g' st'.us) ∧ (∀ b, g'.Sh b ↔ g.Sh b) ∧ (∀ b, b ∈ fp g' st'.us → b ∈ fp g st.us)
 | [], vs, rs, st, g, T, hr, hk => by
  simp only [VRepL] at hr
  subst hr
  cases rs with
  | nil => exact ⟨[], st, g, T, hk, by simp [RetRepL], List.nodup_nil, by simp, fun _ => Iff.rfl, fun _ h => h⟩
  | cons => simp [retWL] at hk
 | av :: avs, vs, rs, st, g, T, hr, hk => by
  simp only [VRepL] at hr
  obtain ⟨v, vs', rfl, hv, hvs⟩ := hr
  cases rs with
  | nil => simp [retWL] at hk
  | cons r rs =>
   simp only [retWL] at hk
   unfold retW1 at hk
   split at hk
   ·next d =>
    obtain ⟨own, d', st', g', F1, ⟨rfl, hle, hk'⟩, T', r1, r2, ⟨o1, _⟩, hsh, hfp⟩ := takeRt_ok h0 T hv hk
    obtain ⟨on, o2⟩ := o1 rfl
    obtain ⟨F2, st2, g2, T2, hk2, p1, p2, p3, p4, p5⟩ := retW_list h0 T' hvs hk'
    refine ⟨F1 ++ F2, st2, g2, T2, hk2, ?_, ?_, ?_, fun b => (p4 b).trans (hsh b), fun b hb => hfp b (p5 b hb)⟩
    ·simp only [RetRepL]
     exact ⟨F1, F2, [], [], v, vs', rfl, rfl, rfl, by simp only [RetRep]; exact ⟨trivial, hle.1 _ _ _ r1, hle.2 _ r2⟩, p1⟩
    ·refine List.nodup_append.2 ⟨on, p2, fun x hx y hy e => ?_⟩
     subst e
     exact (o2 x hx).2.2.1 (p3 x hy).2.1
    ·intro b hb
     rcases List.mem_append.1 hb with hb | hb
     ·obtain ⟨_, q1, q2, q3⟩ := o2 b hb
      exact ⟨fun hs => q1 ((hsh b).2 hs), q3, fun hf => q2 (p5 b hf)⟩
     ·obtain ⟨q1, q2, q3⟩ := p3 b hb
      exact ⟨fun hs => q1 ((hsh b).2 hs), hfp b q2, q3⟩
   ·exact hk.elim

theorem afw_of_res {f n : Nat} {rc : RC} {xs : List RV} (h : resFw P wv f = some (n, rc, xs)) (hm : P.follows .mixedOrders = true) {us us' : List U} {as : List AV} {r : Ret} (hn : decide (as.length ≤ n) = true) (h8 : decide (us.length ≤ 8) = true) (hpu : (pinUs us us' && okUs us'.length us') = true)
  (hq : bdWs us → bdAs as → vcR P rc (stW n us as) (retWE xs us' r)) : AFW P f us as us' r := by
 have hn : as.length ≤ n := by simpa using hn
 have h8 : us.length ≤ 8 := by simpa using h8
 rw [bA] at hpu
 obtain ⟨hl, hpi⟩ := pinUs_spec hpu.1
 unfold resFw at h
 simp only [oD, oB, oP, oS, guard_some, Prod.mk.injEq] at h
 obtain ⟨fn, hf, c, hb, _, hname, rc', hres, xs', hxs, rfl, rfl, rfl⟩ := h
 refine ⟨⟨fn, hf, by simp [hb], by simpa using hname⟩, h8, fun w vs old g hwk hgt hW ha => ?_⟩
 haveI : Gk P w.heap.size (pinM w.heap.size us g) w := ⟨hwk, fun b hb => ⟨hwk.lt b hb, fun h => by
  have hlt := hwk.lt b hb
  rcases h with ⟨_, h⟩ | ⟨_, _, _, _, rfl⟩ | ⟨_, _, rfl⟩
  ·exact hgt b hb h
  ·omega
  ·omega⟩⟩
 refine calls_of_wp hf hb ?_
 have hs := sat_startW hW ha hn h8
 have := vcR_sound hm c rc' (stW fn.ntmps us as) _ _ w hres hs (hq hW.bd (bdAs_of ha))
 refine wp_mono this ?_
 rintro e a' w' ⟨st, hstn, hk, hs'⟩
 have hxl : xs'.length = fn.results.toList.length := (mapM_len hxs)
 have key : retWK xs' us' r st → a'.defers = [] ∧ ∃ v, (results fn a'.tmps).run P w' = .ok v w' ∧
   (∃ v' F g', Ending.returned v = .returned v' ∧ w'.os = w.os ∧ w'.tape = w.tape ∧ w'.output = w.output ∧ w.heap.size ≤ w'.heap.size ∧
   (∀ b, b < w.heap.size → b ∉ fp g (wids 0 us) → w'.heap[b]? = w.heap[b]?) ∧ WEnd w'.heap w.heap.size old us us' g g' F ∧ RetRep w'.heap r F [] v') := by
  intro hk
  refine ⟨hs'.dfr, ?_⟩
  obtain ⟨g1, hu, hv⟩ := hs'.gh
  obtain ⟨avs, vs', h1, h2, h3, h4⟩ := rvs_run (P := P) hu hv hxs hk
  refine ⟨_, results_eq h1, ?_⟩
  have fin : ∀ {rs : List Ret}, retWL (fun st => endUs st 0 us') avs rs st → ∃ F g', RetRepL w'.heap rs F [] vs' ∧ WEnd w'.heap w.heap.size old us us' g g' F := by
   intro rs hL
   obtain ⟨F, st2, g2, T, hE, q1, q2, q3, q4, q5⟩ := retW_list hu (Took.refl hu hv) h2 hL
   have hin := endUs_spec hE
   have hu2 := T.us
   have inf : ∀ b, b ∈ fp g2 (wids 0 us') → b ∈ fp g2 st2.us := fun b hb => by
    obtain ⟨x, hx, hbx⟩ := mem_fp.1 hb
    exact mem_fp.2 ⟨x, (hin x hx).1, hbx⟩
   have low : ∀ b, b < w.heap.size → pinM w.heap.size us g b → b ∈ fp g (wids 0 us) := by
    intro b hb hp
    rcases hp with ⟨_, h⟩ | ⟨_, _, _, _, rfl⟩ | ⟨_, _, rfl⟩
    ·exact h
    ·omega
    ·omega
   refine ⟨F, g2, q1, ⟨?_, ?_, ?_, ?_, ?_⟩⟩
   ·intro x hx
    have ho := hu2.each x (hin x hx).1
    have hp := (hin x hx).2
    obtain ⟨i, u, hi, rfl⟩ := mem_wids.1 hx
    cases u with
    | ar ow nn sz es => simpa only [UOk] using ho
    | own d => cases hp
    | sb T E s => simpa only [UOk] using ho
    | bx sz items =>
     have hmem : U.bx sz items ∈ us' := List.mem_of_getElem? hi
     have hok := okUs_mem hpu.2 _ _ hmem
     simp only [UOk] at ho ⊢
     obtain ⟨p1, b, c, e, xs, rest, p2, p3, p4, p5, p6⟩ := ho
     refine ⟨p1, b, c, e, xs, rest, p2, p3, p4, okWL_rep (fun k hk1 hk2 u hu' => ?_) hok p5, p6⟩
     have hlt : k - 3000000000 < us'.length := by omega
     have hm2 : (3000000000 + (0 + (k - 3000000000)), us'[k - 3000000000]) ∈ wids 0 us' := mem_wids.2 ⟨k - 3000000000, _, by simp [hlt], rfl⟩
     have hk3 : 3000000000 + (0 + (k - 3000000000)) = k := by omega
     rw [hk3] at hm2
     have := hu2.uniq hu' (hin _ hm2).1
     rw [this]
     exact hm2
   ·intro x hx
    obtain ⟨i, u, hi, rfl⟩ := mem_wids.1 hx
    have hi' := (List.getElem?_eq_some_iff.1 hi).1
    have hil : i < us.length := by omega
    obtain ⟨u0, hu0, hp0⟩ := hpi i hi'
    simp only [Nat.zero_add]
    obtain ⟨hm0, hpin⟩ := hin _ hx
    rw [Nat.zero_add] at hm0
    obtain ⟨b, hb⟩ : ∃ b, g.β (3000000000 + i) = some b := by
     have := hW.blk _ (mem_wids.2 ⟨i, u0, hu0, rfl⟩) hp0
     simp only [Nat.zero_add] at this
     cases hb : g.β (3000000000 + i) with
     | none => exact absurd hb this
     | some b => exact ⟨b, rfl⟩
    have p1 := (hu2.pin i b (by omega) ⟨_, hm0, hpin⟩).1 (.inr (.inl ⟨i, b, hil, hb, rfl⟩))
    have p2 := (hu2.pin i (g.cap (3000000000 + i)) (by omega) ⟨_, hm0, hpin⟩).2 (.inr (.inr ⟨i, hil, rfl⟩)) (by rw [p1]; simp)
    exact ⟨by rw [p1, hb], p2⟩
   ·refine List.nodup_append.2 ⟨q2, nodup_flat wids_nodup (fun x hx => phi_nodup hu2 (hin x hx).1) (fun x hx y hy b hbx hby => fp_apart hu2.keys hu2.nodup (hin x hx).1 (hin y hy).1 hbx hby), ?_⟩
    rintro x hx y hy rfl
    exact (q3 x hx).2.2 (inf x hy)
   ·intro b hb
    have hb1 : b ∈ fp g1 st.us ∧ ¬ g1.Sh b := by
     rcases List.mem_append.1 hb with hb | hb
     ·exact ⟨(q3 b hb).2.1, (q3 b hb).1⟩
     ·have := inf b hb
      exact ⟨q5 b this, fun hs => (hu2.sh b ((q4 b).2 hs)).2.2 this⟩
    exact ⟨hu.lt b hb1.1, hu.fz b hb1.1, fun hlt => low b hlt (hu.low b hb1.1 hlt), fun hs => hb1.2 ((q4 b).1 hs)⟩
   ·intro b hb
    obtain ⟨p1, p2, _⟩ := hu2.sh b hb
    exact ⟨p1, p2⟩
  have hfr : ∀ b, b < w.heap.size → b ∉ fp g (wids 0 us) → w'.heap[b]? = w.heap[b]? := by
   intro b hb hn
   refine hs'.old b hb fun hp => hn ?_
   rcases hp with ⟨_, h⟩ | ⟨_, _, _, _, rfl⟩ | ⟨_, _, rfl⟩
   ·exact h
   ·omega
   ·omega
  have single : ∀ {r : Ret}, retWL (fun st => endUs st 0 us') avs [r] st → xs'.length = 1 → ∃ v' F g', Ending.returned (if h : vs'.length = 1 then vs'[0] else .tuple vs'.toArray) = .returned v' ∧ w'.os = w.os ∧ w'.tape = w.tape ∧ w'.output = w.output ∧ w.heap.size ≤ w'.heap.size ∧
   (∀ b, b < w.heap.size → b ∉ fp g (wids 0 us) → w'.heap[b]? = w.heap[b]?) ∧ WEnd w'.heap w.heap.size old us us' g g' F ∧ RetRep w'.heap r F [] v' := by
   intro r hL hx1
   obtain ⟨F, g', q1, q2⟩ := fin hL
   simp only [RetRepL] at q1
   obtain ⟨F1, F2, G1, G2, v, ws, rfl, hG, rfl, hr, hF2, hG2, hws⟩ := q1
   subst hF2; subst hG2; subst hws
   simp only [List.append_nil] at hG q2
   subst hG
   exact ⟨v, F1, g', by simp, hs'.os, hs'.tape, hs'.output, hs'.size, hfr, q2, hr⟩
  unfold retWB at h3
  split at h3
  ·next rs =>
   obtain ⟨F, g', q1, q2⟩ := fin h3.2
   refine ⟨_, F, g', by rw [dif_neg (by rw [h4, ← hxl]; exact h3.1)], hs'.os, hs'.tape, hs'.output, hs'.size, hfr, q2, ?_⟩
   simp only [RetRep]
   exact ⟨_, rfl, by simpa using q1⟩
  ·exact single h3.2 h3.1
 cases e with
 | normal => exact key hk
 | ret => exact key hk
 | exit i => exact hk.elim
 | goto l => exact hk.elim
 | panic c => exact hk.elim
 | outgrown => exact hk.elim

attribute [go_sem] Option.isSome_none Option.isSome_some
@[go_sem] theorem argEnvW_nil {i : Nat} : argEnvW i [] = [] := rfl
@[go_sem] theorem argEnvW_cons {i : Nat} {a : AV} {as : List AV} : argEnvW i (a :: as) = (i, a) :: argEnvW (i + 1) as := rfl
@[go_sem] theorem stW_eq {n : Nat} {us : List U} {as : List AV} : stW n us as = ⟨n, argEnvW 0 as, wids 0 us⟩ := rfl
@[go_sem] theorem wids_nil {i : Nat} : wids i [] = [] := rfl
@[go_sem] theorem wids_cons {i : Nat} {u : U} {r : List U} : wids i (u :: r) = (3000000000 + i, u) :: wids (i + 1) r := rfl
@[go_sem] theorem retWE_normal {xs : List RV} {us' : List U} {r : Ret} {st : St} : retWE xs us' r .normal st = retWK xs us' r st := rfl
@[go_sem] theorem retWE_ret {xs : List RV} {us' : List U} {r : Ret} {st : St} : retWE xs us' r .ret st = retWK xs us' r st := rfl
@[go_sem] theorem retWE_exit {xs : List RV} {us' : List U} {r : Ret} {st : St} {i : Nat} : retWE xs us' r (.exit i) st = False := rfl
@[go_sem] theorem retWK_eq {xs : List RV} {us' : List U} {r : Ret} {st : St} : retWK xs us' r st = rvsK st xs (retWB xs us' st r) := rfl
@[go_sem] theorem retWB_own {x : RV} {us' : List U} {st : St} {d : D} {avs : List AV} : retWB [x] us' st (.own d) avs = retWL (fun st => endUs st 0 us') avs [.own d] st := by simp [retWB]
@[go_sem] theorem retWB_tup0 {us' : List U} {st : St} {rs : List Ret} {avs : List AV} : retWB [] us' st (.tup rs) avs = retWL (fun st => endUs st 0 us') avs rs st := by simp [retWB]
@[go_sem] theorem retWB_tup {x y : RV} {xs : List RV} {us' : List U} {st : St} {rs : List Ret} {avs : List AV} : retWB (x :: y :: xs) us' st (.tup rs) avs = retWL (fun st => endUs st 0 us') avs rs st := by simp [retWB]
@[go_sem] theorem retWL_nil {k : St → Prop} {st : St} : retWL k [] [] st = k st := rfl
@[go_sem] theorem retWL_cons {k : St → Prop} {av : AV} {avs : List AV} {r : Ret} {rs : List Ret} {st : St} : retWL k (av :: avs) (r :: rs) st = retW1 st av r (retWL k avs rs) := rfl
@[go_sem] theorem retW1_own {st : St} {av : AV} {d : D} {k : St → Prop} : retW1 st av (.own d) k = takeRt st av (retO d k) := rfl
@[go_sem] theorem endUs_nil {st : St} {i : Nat} : endUs st i [] = True := rfl
@[go_sem] theorem endUs_cons {st : St} {i : Nat} {x : U} {r : List U} : endUs st i (x :: r) = (endU (st.unit (3000000000 + i)) x ∧ endUs st (i + 1) r) := rfl
@[congr] theorem endU_cg {u u' : Option U} {x : U} (h : u = u') : endU u x = endU u' x := by rw [h]
@[go_sem] theorem endU_ar {ow : Bool} {nn : Option Bool} {sz : Nat} {es : List D} {ow' : Bool} {nn' : Option Bool} {sz' : Nat} {es' : List D} : endU (some (.ar ow nn sz es)) (.ar ow' nn' sz' es') = (ow = ow' ∧ nn = none ∧ nn' = none ∧ sz = sz' ∧ es = es') := rfl
@[go_sem] theorem endU_bx {sz : Nat} {items : List AV} {sz' : Nat} {items' : List AV} : endU (some (.bx sz items)) (.bx sz' items') = (sz = sz' ∧ items = items') := rfl

@[go_sem] theorem bdWs_nil : bdWs [] = True := rfl
@[go_sem] theorem bdWs_cons {u : U} {r : List U} : bdWs (u :: r) = (bdU u ∧ bdWs r) := rfl
@[go_sem] theorem bdU_ar {ow : Bool} {nn : Option Bool} {sz : Nat} {es : List D} : bdU (.ar ow nn sz es) = D.bdL es := rfl
@[go_sem] theorem bdU_own {d : D} : bdU (.own d) = d.bd := rfl
@[go_sem] theorem bdU_bx {sz : Nat} {items : List AV} : bdU (.bx sz items) = True := rfl
@[go_sem] theorem bdAs_nil : bdAs [] = True := rfl
@[go_sem] theorem bdAs_cons {a : AV} {r : List AV} : bdAs (a :: r) = (bdA a ∧ bdAs r) := rfl
@[go_sem] theorem bdA_im {t : Option Nat} {d : D} : bdA (.im t d) = d.bd := rfl

end Go.Ax
namespace Go.Ax

inductive MV where
 | va (x : Value)
 | rt
 | pt (i j : Nat)
 | sb (i j : Nat)
 | sg (i j z : Nat)
 | any
 deriving Inhabited

def mlk : List (Nat × MV) → Nat → MV
 | [], _ => .any
 | (k, v) :: r, t => if k = t then v else mlk r t

structure MS where
 bx : Bool
 ds : List D
 env : List (Nat × MV)

def MS.set (s : MS) (d : Nat) (v : MV) : MS := ⟨s.bx, s.ds, (d, v) :: s.env⟩
def kilV : MV → MV
 | .sb _ _ => .any
 | .sg _ _ _ => .any
 | .pt i j => .pt i j
 | v => v
def kil : List (Nat × MV) → List (Nat × MV)
 | [] => []
 | (k, v) :: r => (k, kilV v) :: kil r
def kilP : List (Nat × MV) → List (Nat × MV)
 | [] => []
 | (k, .va x) :: r => (k, .va x) :: kilP r
 | (k, .rt) :: r => (k, .rt) :: kilP r
 | (k, _) :: r => (k, .any) :: kilP r
def mev (env : List (Nat × MV)) : X → MV
 | .t n => mlk env n
 | .c (.sc x) => .va x
 | .c _ => .any

def mLen (x : MV) (sl : Bool) (d : Nat) (s : MS) (k : MS → Prop) : Prop :=
 match x with
 | .rt => sl = true ∧ k (s.set d (.va (.int .i64 s.ds.length)))
 | _ => False
def mBin (x y : MV) (op : BinOp) (d : Nat) (s : MS) (k : MS → Prop) : Prop :=
 match x, y with
 | .va a, .va b => binV op a b fun v => k (s.set d (.va v))
 | _, _ => False
def mIa (x i : MV) (sl : Bool) (sz z d : Nat) (s : MS) (k : MS → Prop) : Prop :=
 match x, i with
 | .rt, .va (.int _ n) => (sl = true ∧ s.bx = true ∧ z = sz ∧ 0 < sz ∧ 0 ≤ n ∧ n < s.ds.length) ∧ k (s.set d (.pt n.toNat 0))
 | _, _ => False
def mFa (x : MV) (sz off d : Nat) (s : MS) (k : MS → Prop) : Prop :=
 match x with
 | .pt i j => j + off < sz ∧ k (s.set d (.pt i (j + off)))
 | _ => False
def mBox (x : MV) (sl : Bool) (sz z d : Nat) (s : MS) (k : MS → Prop) : Prop :=
 match x with
 | .rt => (sl = false ∧ s.bx = false ∧ z = sz ∧ 0 < sz ∧ 0 < s.ds.length) ∧ k ⟨true, s.ds, (d, .pt 0 0) :: kilP s.env⟩
 | _ => False
def mLd (x : MV) (agg : Bool) (z d : Nat) (s : MS) (k : MS → Prop) : Prop :=
 match x with
 | .pt i j => ((agg = false ∧ z = 1) ∧ k (s.set d (.sb i j))) ∨ ((agg = true ∧ j + z ≤ (D.at s.ds i).size ∧ (D.at s.ds i).isAg = true) ∧ k (s.set d (.sg i j z)))
 | _ => False
def mSt (x y : MV) (sl : Bool) (sz z : Nat) (s : MS) (k : MS → Prop) : Prop :=
 match x, y with
 | .pt i j, .va y => (sl = true ∧ z = 1 ∧ y.oneCell' = true ∧ (D.sub (D.at s.ds i) j 1 false).isSc = true ∧ (j = 0 ∧ 1 = sz ∨ (D.at s.ds i).isAg = true)) ∧
   k ⟨s.bx, s.ds.set i (D.put sz (D.at s.ds i) j 1 (.sc y)), kil s.env⟩
 | _, _ => False
def mMcl (x y : MV) (P : Program) (sz d f : Nat) (s : MS) (k : MS → Prop) : Prop :=
 match x, y with
 | .sb i j, .va (.int .i64 n) => ∃ e' n', AFM P f (D.sub (D.at s.ds i) j 1 false) n e' n' ∧ ((D.sub (D.at s.ds i) j 1 false).isAg = false ∧ (j = 0 ∧ 1 = sz ∨ (D.at s.ds i).isAg = true)) ∧
   k ⟨s.bx, s.ds.set i (D.put sz (D.at s.ds i) j 1 e'), (d, .va (.int .i64 n')) :: s.env⟩
 | .sg i j z, .va (.int .i64 n) => ∃ e' n', AFM P f (D.sub (D.at s.ds i) j z true) n e' n' ∧ (D.at s.ds i).isAg = true ∧
   k ⟨s.bx, s.ds.set i (D.put sz (D.at s.ds i) j z e'), (d, .va (.int .i64 n')) :: s.env⟩
 | _, _ => False
def mOp (P : Program) (sl : Bool) (sz : Nat) (r : ROp) (s : MS) (k : MS → Prop) : Prop :=
 match r with
 | .mv d x => k (s.set d (mev s.env x))
 | .len d x => mLen (mev s.env x) sl d s k
 | .bin d op x y => mBin (mev s.env x) (mev s.env y) op d s k
 | .ia d z x i => mIa (mev s.env x) (mev s.env i) sl sz z d s k
 | .fa d off x => mFa (mev s.env x) sz off d s k
 | .box d z x => mBox (mev s.env x) sl sz z d s k
 | .ld d agg z x => mLd (mev s.env x) agg z d s k
 | .st z x y => mSt (mev s.env x) (mev s.env y) sl sz z s k
 | .mcl d f x y => mMcl (mev s.env x) (mev s.env y) P sz d f s k
 | _ => False
def mOps (P : Program) (sl : Bool) (sz : Nat) : List RO → MS → (MS → Prop) → Prop
 | [], s, k => k s
 | ⟨none, r⟩ :: rest, s, k => mOp P sl sz r s fun s => mOps P sl sz rest s k
 | ⟨some _, _⟩ :: _, _, _ => False
def MEnt (s s' : MS) : Prop := s'.bx = s.bx ∧ s'.ds = s.ds ∧ ∀ t, mlk s'.env t = .any ∨ mlk s'.env t = mlk s.env t
def mseq (f : MS → Prop) (K : Exit → MS → Prop) (e : Exit) (s : MS) : Prop :=
 match e with
 | .normal => f s
 | e => K e s
def mblk (id : Nat) (K : Exit → MS → Prop) (e : Exit) (s : MS) : Prop :=
 match e with
 | .exit i => if i = id then K .normal s else K (.exit i) s
 | e => K e s
def mCond (c : MV) (p q : Prop) : Prop :=
 match c with
 | .va (.bool t) => (t = true → p) ∧ (t = false → q)
 | _ => False
def mR (P : Program) (sl : Bool) (sz : Nat) : RC → MS → (Exit → MS → Prop) → Prop
 | .skip, s, K => K .normal s
 | .reg false ops, s, K => mOps P sl sz ops s (K .normal)
 | .seq a b, s, K => mR P sl sz a s (mseq (fun s => mR P sl sz b s K) K)
 | .cond x a b, s, K => mCond (mev s.env x) (mR P sl sz a s K) (mR P sl sz b s K)
 | .blk id c, s, K => mR P sl sz c s (mblk id K)
 | .loop c, s, K => ∃ I : Nat → MS → Prop, (∃ n s', MEnt s s' ∧ I n s') ∧ ∀ n s, I n s → mR P sl sz c s (mseq (fun s' => ∃ n' s'', MEnt s' s'' ∧ I n' s'' ∧ n' < n) K)
 | .exit id, s, K => K (.exit id) s
 | .ret, s, K => K .ret s
 | _, _, _ => False

structure MFix where
 v : Value
 F0 : List Nat
 w0 : World
 sz : Nat
 sl : Bool
 n : Nat
 len : Nat
structure MG where
 F : List Nat
 cs : List Value
 b : Nat
 off : Nat
 cap : Nat
 c : Array Value
 e : TypeId
def MRep (X : MFix) (G : MG) (bx : Bool) : MV → Value → Prop
 | .va x, y => y = x
 | .rt, y => y = X.v
 | .pt i j, y => bx = true ∧ y = .pointer (some ⟨G.b, G.off + (i * X.sz + j), none⟩) ∧ i < X.len ∧ j < X.sz
 | .sb i j, y => G.cs[i * X.sz + j]? = some y ∧ i < X.len ∧ j < X.sz
 | .sg i j z, y => (∃ c, y = .agg c ∧ c.toList = (G.cs.drop (i * X.sz + j)).take z) ∧ i < X.len ∧ j + z ≤ X.sz
 | .any, _ => True
structure MSat (X : MFix) (s : MS) (a : Act) (w : World) (G : MG) : Prop where
 dfr : a.defers = []
 tm : a.tmps.size = X.n
 os : w.os = X.w0.os
 tape : w.tape = X.w0.tape
 output : w.output = X.w0.output
 size : X.w0.heap.size ≤ w.heap.size
 old : ∀ y, y < X.w0.heap.size → y ∉ X.F0 → w.heap[y]? = X.w0.heap[y]?
 f0 : ∀ y ∈ X.F0, y < X.w0.heap.size
 len : s.ds.length = X.len
 rep : RepL w.heap s.ds G.F G.cs
 sz : ∀ d ∈ s.ds, d.size = X.sz
 nd : G.F.Nodup
 fin : ∀ y ∈ G.F, y ∈ X.F0 ∧ Unf w.heap y
 vsl : X.sl = true → s.bx = true → X.v = .slice (some ⟨G.b, G.off, none⟩) X.len G.cap ∧ G.b ∈ X.F0 ∧ X.len ≤ G.cap ∧ G.off + G.cap * X.sz ≤ G.c.size
 vsl0 : X.sl = true → ∃ p cap, X.v = .slice p X.len cap
 vst : X.sl = false → X.v.cells.toList = G.cs
 blk : s.bx = true → w.heap[G.b]? = some (.cells G.c G.e (0, 0)) ∧ G.off + G.cs.length ≤ G.c.size ∧ (G.c.toList.drop G.off).take G.cs.length = G.cs ∧ G.b ∉ G.F
 bst : s.bx = true → X.sl = false → X.w0.heap.size ≤ G.b
 env : ∀ t, MRep X G s.bx (mlk s.env t) (a.tmps.getD t undef)

variable {P : Program} {X : MFix}

theorem MSat.cslen {s : MS} {a : Act} {w : World} {G : MG} (h : MSat X s a w G) : G.cs.length = X.len * X.sz := by
 rw [h.rep.length, D.sizeL_const h.sz, h.len]

variable {s : MS} {a : Act} {w : World} {G : MG} {o : Oper} {k : MS → Prop} {Q' : Exit → Act → World → Prop}

theorem MSat.cell (h : MSat X s a w G) {i j : Nat} (hi : i < X.len) (hj : j < X.sz) (hw : j = 0 ∧ 1 = X.sz ∨ (D.at s.ds i).isAg = true) {y : Value} (hy : G.cs[i * X.sz + j]? = some y) :
  ∃ A B C, G.F = A ++ (B ++ C) ∧ Rep w.heap (D.sub (D.at s.ds i) j 1 false) B [y] ∧
   ∀ (h' : Heap) (e' : D) (F' : List Nat) (y' : Value), (∀ b ∈ A ++ C, h'[b]? = w.heap[b]?) → Rep h' e' F' [y'] → ∃ A2 C2, (∀ x, x ∈ A2 ++ C2 ↔ x ∈ A ++ C) ∧ (A2 ++ C2).Nodup ∧
    RepL h' (s.ds.set i (D.put X.sz (D.at s.ds i) j 1 e')) (A2 ++ (F' ++ C2)) (G.cs.set (i * X.sz + j) y') ∧ (∀ d ∈ s.ds.set i (D.put X.sz (D.at s.ds i) j 1 e'), d.size = X.sz) := by
 have hil : i < s.ds.length := by rw [h.len]; exact hi
 have hone := h.rep.one y (List.mem_of_getElem? hy)
 have hjk : Rep w.heap D.jk [] [y] := by simp [Rep, hone]
 have hlt := (List.getElem?_eq_some_iff.1 hy).1
 have hyv := (List.getElem?_eq_some_iff.1 hy).2
 obtain ⟨A, B, C, hF, y1, y2, y3⟩ := put_list h.rep hjk h.sz hil (by simp [D.size]) (by omega) hw
 have hsub := y3 false (by simp) (fun _ => rfl)
 have e1 : (G.cs.drop (i * X.sz + j)).take 1 = [y] := by
  rw [List.drop_eq_getElem_cons hlt, hyv]; rfl
 have e2 : G.cs.take (i * X.sz + j) ++ ([y] ++ G.cs.drop (i * X.sz + j + 1)) = G.cs := by
  rw [← hyv]
  simp
 rw [e1] at hsub
 rw [e2] at y1
 refine ⟨A, B, C, hF, hsub, fun h' e' F' y' hfr hre => ?_⟩
 have hAC : ∀ b ∈ A ++ ([] ++ C), h'[b]? = w.heap[b]? := by simpa using hfr
 have y1' := y1.frame hAC
 have hel2 : i < (s.ds.set i (D.put X.sz (D.at s.ds i) j 1 D.jk)).length := by simpa using hil
 have hat : D.at (s.ds.set i (D.put X.sz (D.at s.ds i) j 1 D.jk)) i = D.put X.sz (D.at s.ds i) j 1 D.jk := by
  rw [D.at_eq hel2]; simp
 have he1 : e'.size = 1 := by have := hre.length; simpa using this.symm
 have hagl : ∀ l, D.at s.ds i = .ag l → l.length = X.sz := by
  intro l hl
  rw [D.at_eq hil] at hl
  have h1 := h.sz _ (List.getElem_mem hil)
  obtain ⟨_, _, _, _, _, _, _, _, _, hpk, _⟩ := h.rep.pick hil
  rw [hl] at h1 hpk
  simp only [Rep] at hpk
  simp only [D.size, D.sizeL_one hpk.1] at h1
  exact h1
 have hpp : D.put X.sz (D.put X.sz (D.at s.ds i) j 1 D.jk) j 1 e' = D.put X.sz (D.at s.ds i) j 1 e' := by
  by_cases hwh : j = 0 ∧ 1 = X.sz
  ·simp [D.put, hwh]
  ·have hA := hw.resolve_left hwh
   cases hD : D.at s.ds i with
   | ag l =>
    have hlen := hagl l hD
    simp only [D.put, hwh, if_false, D.cells]
    have e1 : (l.take j ++ [D.jk]).length = j + 1 := by simp; omega
    have e2 : (l.take j).length = j := by simp; omega
    rw [List.drop_left' e1, List.append_assoc (l.take j), List.take_left' e2]
   | _ => rw [hD] at hA; simp [D.isAg] at hA
 have hw2 : j = 0 ∧ 1 = X.sz ∨ (D.at (s.ds.set i (D.put X.sz (D.at s.ds i) j 1 D.jk)) i).isAg = true := by
  rw [hat]
  by_cases hwh : j = 0 ∧ 1 = X.sz
  ·exact .inl hwh
  ·right
   have hA := hw.resolve_left hwh
   cases hD : D.at s.ds i with
   | ag l => simp [D.put, hwh, D.isAg]
   | _ => rw [hD] at hA; simp [D.isAg] at hA
 obtain ⟨A2, B2, C2, hG, x1, x2, x3⟩ := put_list y1' hre y2 hel2 he1 (by omega) hw2
 rw [hat, hpp, List.set_set] at x1 x2
 have hB2 : B2 = [] := by
  have := x3 false (by simp) (fun _ => rfl)
  rw [hat, e1] at this
  have hjj : D.sub (D.put X.sz (D.at s.ds i) j 1 D.jk) j 1 false = D.jk := by
   by_cases hwh : j = 0 ∧ 1 = X.sz
   ·simp [D.put, hwh, D.sub]
   ·have hA := hw.resolve_left hwh
    cases hD : D.at s.ds i with
    | ag l =>
     have hlen := hagl l hD
     have e2 : (l.take j).length = j := by simp; omega
     simp only [D.put, hwh, if_false, D.sub, bF, D.cells, List.getD_eq_getElem?_getD, List.append_assoc]
     rw [List.getElem?_append_right (by omega), e2]
     simp
    | _ => rw [hD] at hA; simp [D.isAg] at hA
  rw [hjj] at this
  simp only [Rep] at this
  exact this.1
 subst hB2
 have hset : G.cs.take (i * X.sz + j) ++ ([y'] ++ G.cs.drop (i * X.sz + j + 1)) = G.cs.set (i * X.sz + j) y' := by
  rw [List.set_eq_take_append_cons_drop, if_pos hlt]; simp
 rw [hset] at x1
 have hmem : ∀ x, x ∈ A2 ++ C2 ↔ x ∈ A ++ C := by
  intro x
  have e3 : A ++ C = A2 ++ C2 := by simpa using hG
  rw [e3]
 refine ⟨A2, C2, hmem, ?_, x1, x2⟩
 have e3 : A ++ C = A2 ++ C2 := by simpa using hG
 rw [← e3]
 have := h.nd
 rw [hF, List.nodup_append, List.nodup_append] at this
 exact List.nodup_append.2 ⟨this.1, this.2.1.2.1, fun x hx y hy e => this.2.2 x hx y (by simp [hy]) e⟩

theorem jk_F : ∀ {n : Nat} {h : Heap} {F : List Nat} {cs : List Value}, RepL h (List.replicate n D.jk) F cs → F = []
 | 0, _, _, _, hr => by simp only [List.replicate_zero, RepL] at hr; exact hr.1
 | n + 1, _, _, _, hr => by
  simp only [List.replicate_succ, RepL_cons] at hr
  obtain ⟨F1, F2, c1, c2, rfl, rfl, h1, h2⟩ := hr
  simp only [Rep] at h1
  rw [h1.1, jk_F h2]; rfl
theorem MSat.cells (h : MSat X s a w G) {i j z : Nat} (hi : i < X.len) (hj : j + z ≤ X.sz) (hA : (D.at s.ds i).isAg = true) :
  ∃ A B C, G.F = A ++ (B ++ C) ∧ Rep w.heap (D.sub (D.at s.ds i) j z true) B ((G.cs.drop (i * X.sz + j)).take z) ∧
   ∀ (h' : Heap) (e' : D) (F' : List Nat), (∀ b ∈ A ++ C, h'[b]? = w.heap[b]?) → Rep h' e' F' ((G.cs.drop (i * X.sz + j)).take z) → ∃ A2 C2, (∀ x, x ∈ A2 ++ C2 ↔ x ∈ A ++ C) ∧ (A2 ++ C2).Nodup ∧
    RepL h' (s.ds.set i (D.put X.sz (D.at s.ds i) j z e')) (A2 ++ (F' ++ C2)) G.cs ∧ (∀ d ∈ s.ds.set i (D.put X.sz (D.at s.ds i) j z e'), d.size = X.sz) := by
 have hil : i < s.ds.length := by rw [h.len]; exact hi
 obtain ⟨l, hD⟩ : ∃ l, D.at s.ds i = .ag l := by
  cases hD : D.at s.ds i with
  | ag l => exact ⟨l, rfl⟩
  | _ => rw [hD] at hA; simp [D.isAg] at hA
 have hlen : l.length = X.sz := by
  have hl := hD
  rw [D.at_eq hil] at hl
  have h1 := h.sz _ (List.getElem_mem hil)
  obtain ⟨_, _, _, _, _, _, _, _, _, hpk, _⟩ := h.rep.pick hil
  rw [hl] at h1 hpk
  simp only [Rep] at hpk
  simp only [D.size, D.sizeL_one hpk.1] at h1
  exact h1
 have hcl := h.cslen
 have hle : i * X.sz + X.sz ≤ X.len * X.sz := by
  have := Nat.mul_le_mul_right X.sz (show i + 1 ≤ X.len by omega)
  rw [Nat.add_mul] at this; omega
 generalize hv : (G.cs.drop (i * X.sz + j)).take z = vc
 have hvl : vc.length = z := by rw [← hv]; simp; omega
 have hone : ∀ v ∈ vc, v.oneCell' = true := fun v hm => h.rep.one v (by rw [← hv] at hm; exact List.mem_of_mem_drop (List.mem_of_mem_take hm))
 obtain ⟨hjk, hjs⟩ := jks_rep w.heap z true (by simp) vc hvl hone
 have hw : j = 0 ∧ z = X.sz ∨ (D.at s.ds i).isAg = true := .inr hA
 obtain ⟨A, B, C, hF, y1, y2, y3⟩ := put_list h.rep hjk h.sz hil hjs hj hw
 have hsub := y3 true (fun _ => hA) (by simp)
 rw [hv] at hsub
 have e2 : G.cs.take (i * X.sz + j) ++ (vc ++ G.cs.drop (i * X.sz + j + z)) = G.cs := by
  have e1 : G.cs.drop (i * X.sz + j + z) = (G.cs.drop (i * X.sz + j)).drop z := by rw [List.drop_drop]
  rw [← hv, e1, List.take_append_drop, List.take_append_drop]
 rw [e2] at y1
 refine ⟨A, B, C, hF, hsub, fun h' e' F' hfr hre => ?_⟩
 have hAC : ∀ b ∈ A ++ ([] ++ C), h'[b]? = w.heap[b]? := by simpa using hfr
 have y1' := y1.frame hAC
 have hel2 : i < (s.ds.set i (D.put X.sz (D.at s.ds i) j z (jks z true))).length := by simpa using hil
 have hat : D.at (s.ds.set i (D.put X.sz (D.at s.ds i) j z (jks z true))) i = D.put X.sz (D.at s.ds i) j z (jks z true) := by
  rw [D.at_eq hel2]; simp
 have he1 : e'.size = z := by have := hre.length; omega
 have hj1 : (jks z true).cells = List.replicate z D.jk := rfl
 have e3 : (l.take j).length = j := by simp; omega
 have e4 : (l.take j ++ List.replicate z D.jk).length = j + z := by simp; omega
 have hput : D.put X.sz (D.at s.ds i) j z (jks z true) = .ag (l.take j ++ List.replicate z D.jk ++ l.drop (j + z)) := by
  rw [hD]
  by_cases hwh : j = 0 ∧ z = X.sz
  ·obtain ⟨rfl, rfl⟩ := hwh
   simp only [D.put, and_self, if_true, jks]
   rw [List.drop_eq_nil_of_le (by omega)]; simp
  ·simp only [D.put, hwh, if_false, hj1]
 have hpp : D.put X.sz (D.put X.sz (D.at s.ds i) j z (jks z true)) j z e' = D.put X.sz (D.at s.ds i) j z e' := by
  rw [hput, hD]
  by_cases hwh : j = 0 ∧ z = X.sz
  ·simp [D.put, hwh]
  ·simp only [D.put, hwh, if_false]
   rw [List.drop_left' e4, List.append_assoc (l.take j), List.take_left' e3]
 have hw2 : j = 0 ∧ z = X.sz ∨ (D.at (s.ds.set i (D.put X.sz (D.at s.ds i) j z (jks z true))) i).isAg = true := by
  rw [hat, hput]; exact .inr rfl
 obtain ⟨A2, B2, C2, hG, x1, x2, x3⟩ := put_list y1' hre y2 hel2 he1 hj hw2
 rw [hat, hpp, List.set_set] at x1 x2
 have hB2 : B2 = [] := by
  have := x3 true (fun _ => by rw [hat, hput]; rfl) (by simp)
  rw [hat, hput] at this
  have hjj : D.sub (.ag (l.take j ++ List.replicate z D.jk ++ l.drop (j + z))) j z true = .ag (List.replicate z D.jk) := by
   simp only [D.sub, if_true]
   rw [List.append_assoc, List.drop_left' e3, List.take_left' (by simp)]
  rw [hjj] at this
  simp only [Rep] at this
  exact jk_F this.2
 subst hB2
 rw [e2] at x1
 have e5 : A ++ C = A2 ++ C2 := by simpa using hG
 refine ⟨A2, C2, fun x => by rw [e5], ?_, x1, x2⟩
 rw [← e5]
 have := h.nd
 rw [hF, List.nodup_append, List.nodup_append] at this
 exact List.nodup_append.2 ⟨this.1, this.2.1.2.1, fun x hx y hy e => this.2.2 x hx y (by simp [hy]) e⟩
def mEnd (r : Nat) (bx : Bool) (ds' : List D) (n' : Int) (e : Exit) (s : MS) : Prop :=
 match e with
 | .normal => (bx = true → s.bx = true) ∧ s.ds = ds' ∧ mlk s.env r = .va (.int .i64 n')
 | .ret => (bx = true → s.bx = true) ∧ s.ds = ds' ∧ mlk s.env r = .va (.int .i64 n')
 | _ => False

section
variable {sl : Bool} {sz : Nat} {s : MS} {K : Exit → MS → Prop} {bx : Bool} {ds : List D} {env : List (Nat × MV)}
def kmR (P : Program) (sl : Bool) (sz : Nat) (c : RC) (K : Exit → MS → Prop) (s : MS) : Prop := mR P sl sz c s K
def kmO (P : Program) (sl : Bool) (sz : Nat) (l : List RO) (k : MS → Prop) (s : MS) : Prop := mOps P sl sz l s k
@[congr] theorem mR_cg {c : RC} {s s' : MS} (h : s = s') : mR P sl sz c s K = mR P sl sz c s' K := by rw [h]
@[congr] theorem kmR_cg {c : RC} {s s' : MS} (h : s = s') : kmR P sl sz c K s = kmR P sl sz c K s' := by rw [h]
@[congr] theorem mOps_cg {l : List RO} {s s' : MS} {k : MS → Prop} (h : s = s') : mOps P sl sz l s k = mOps P sl sz l s' k := by rw [h]
@[congr] theorem kmO_cg {l : List RO} {s s' : MS} {k : MS → Prop} (h : s = s') : kmO P sl sz l k s = kmO P sl sz l k s' := by rw [h]
@[congr] theorem mseq_cg {f : MS → Prop} {e e' : Exit} {s s' : MS} (h : e = e') (h' : s = s') : mseq f K e s = mseq f K e' s' := by rw [h, h']
@[congr] theorem mblk_cg {i : Nat} {e e' : Exit} {s s' : MS} (h : e = e') (h' : s = s') : mblk i K e s = mblk i K e' s' := by rw [h, h']
@[congr] theorem mCond_cg {c c' : MV} {p q : Prop} (h : c = c') : mCond c p q = mCond c' p q := by rw [h]
@[congr] theorem mLen_cg {x x' : MV} {d : Nat} {k : MS → Prop} (h : x = x') : mLen x sl d s k = mLen x' sl d s k := by rw [h]
@[congr] theorem mBin_cg {x x' y y' : MV} {op : BinOp} {d : Nat} {k : MS → Prop} (h : x = x') (h' : y = y') : mBin x y op d s k = mBin x' y' op d s k := by rw [h, h']
@[congr] theorem mIa_cg {x x' y y' : MV} {z d : Nat} {k : MS → Prop} (h : x = x') (h' : y = y') : mIa x y sl sz z d s k = mIa x' y' sl sz z d s k := by rw [h, h']
@[congr] theorem mFa_cg {x x' : MV} {off d : Nat} {k : MS → Prop} (h : x = x') : mFa x sz off d s k = mFa x' sz off d s k := by rw [h]
@[congr] theorem mBox_cg {x x' : MV} {z d : Nat} {k : MS → Prop} (h : x = x') : mBox x sl sz z d s k = mBox x' sl sz z d s k := by rw [h]
@[congr] theorem mLd_cg {x x' : MV} {agg : Bool} {z d : Nat} {k : MS → Prop} (h : x = x') : mLd x agg z d s k = mLd x' agg z d s k := by rw [h]
@[congr] theorem mSt_cg {x x' y y' : MV} {z : Nat} {k : MS → Prop} (h : x = x') (h' : y = y') : mSt x y sl sz z s k = mSt x' y' sl sz z s k := by rw [h, h']
@[congr] theorem mMcl_cg {x x' y y' : MV} {d f : Nat} {k : MS → Prop} (h : x = x') (h' : y = y') : mMcl x y P sz d f s k = mMcl x' y' P sz d f s k := by rw [h, h']
@[go_sem ↓] theorem mR_skip : mR P sl sz .skip s K = K .normal s := rfl
@[go_sem ↓] theorem mR_reg {ops : List RO} : mR P sl sz (.reg false ops) s K = mOps P sl sz ops s (K .normal) := rfl
@[go_sem ↓] theorem mR_seq {a b : RC} : mR P sl sz (.seq a b) s K = mR P sl sz a s (mseq (kmR P sl sz b K) K) := rfl
@[go_sem ↓] theorem mR_cond {x : Ax.X} {a b : RC} : mR P sl sz (.cond x a b) s K = mCond (mev s.env x) (mR P sl sz a s K) (mR P sl sz b s K) := rfl
@[go_sem ↓] theorem mR_blk {i : Nat} {c : RC} : mR P sl sz (.blk i c) s K = mR P sl sz c s (mblk i K) := rfl
@[go_sem ↓] theorem mR_exit {i : Nat} : mR P sl sz (.exit i) s K = K (.exit i) s := rfl
@[go_sem ↓] theorem mR_ret : mR P sl sz .ret s K = K .ret s := rfl
@[go_sem ↓] theorem kmR_ap {c : RC} : kmR P sl sz c K s = mR P sl sz c s K := rfl
@[go_sem ↓] theorem kmO_ap {l : List RO} {k : MS → Prop} : kmO P sl sz l k s = mOps P sl sz l s k := rfl
@[go_sem ↓] theorem mseq_normal {f : MS → Prop} : mseq f K .normal s = f s := rfl
@[go_sem ↓] theorem mseq_ret {f : MS → Prop} : mseq f K .ret s = K .ret s := rfl
@[go_sem ↓] theorem mseq_exit {f : MS → Prop} {i : Nat} : mseq f K (.exit i) s = K (.exit i) s := rfl
@[go_sem ↓] theorem mblk_normal {i : Nat} : mblk i K .normal s = K .normal s := rfl
@[go_sem ↓] theorem mblk_ret {i : Nat} : mblk i K .ret s = K .ret s := rfl
@[go_sem] theorem mblk_exit {i j : Nat} : mblk i K (.exit j) s = if j = i then K .normal s else K (.exit j) s := rfl
@[go_sem] theorem mCond_b {t : Bool} {p q : Prop} : mCond (.va (.bool t)) p q = ((t = true → p) ∧ (t = false → q)) := rfl
@[go_sem ↓] theorem mOps_nil {k : MS → Prop} : mOps P sl sz [] s k = k s := rfl
section
variable {l : List RO} {k : MS → Prop}
@[go_sem ↓] theorem mOps_mv {d : Nat} {x : Ax.X} : mOps P sl sz (⟨none, .mv d x⟩ :: l) s k = kmO P sl sz l k (s.set d (mev s.env x)) := rfl
@[go_sem ↓] theorem mOps_len {d : Nat} {x : Ax.X} : mOps P sl sz (⟨none, .len d x⟩ :: l) s k = mLen (mev s.env x) sl d s (kmO P sl sz l k) := rfl
@[go_sem ↓] theorem mOps_bin {d : Nat} {op : BinOp} {x y : Ax.X} : mOps P sl sz (⟨none, .bin d op x y⟩ :: l) s k = mBin (mev s.env x) (mev s.env y) op d s (kmO P sl sz l k) := rfl
@[go_sem ↓] theorem mOps_ia {d z : Nat} {x y : Ax.X} : mOps P sl sz (⟨none, .ia d z x y⟩ :: l) s k = mIa (mev s.env x) (mev s.env y) sl sz z d s (kmO P sl sz l k) := rfl
@[go_sem ↓] theorem mOps_fa {d off : Nat} {x : Ax.X} : mOps P sl sz (⟨none, .fa d off x⟩ :: l) s k = mFa (mev s.env x) sz off d s (kmO P sl sz l k) := rfl
@[go_sem ↓] theorem mOps_box {d z : Nat} {x : Ax.X} : mOps P sl sz (⟨none, .box d z x⟩ :: l) s k = mBox (mev s.env x) sl sz z d s (kmO P sl sz l k) := rfl
@[go_sem ↓] theorem mOps_ld {d z : Nat} {agg : Bool} {x : Ax.X} : mOps P sl sz (⟨none, .ld d agg z x⟩ :: l) s k = mLd (mev s.env x) agg z d s (kmO P sl sz l k) := rfl
@[go_sem ↓] theorem mOps_st {z : Nat} {x y : Ax.X} : mOps P sl sz (⟨none, .st z x y⟩ :: l) s k = mSt (mev s.env x) (mev s.env y) sl sz z s (kmO P sl sz l k) := rfl
@[go_sem ↓] theorem mOps_mcl {d f : Nat} {x y : Ax.X} : mOps P sl sz (⟨none, .mcl d f x y⟩ :: l) s k = mMcl (mev s.env x) (mev s.env y) P sz d f s (kmO P sl sz l k) := rfl
@[go_sem] theorem mLen_rt {d : Nat} : mLen .rt sl d s k = (sl = true ∧ k (s.set d (.va (.int .i64 s.ds.length)))) := rfl
@[go_sem] theorem mBin_va {a b : Value} {op : BinOp} {d : Nat} : mBin (.va a) (.va b) op d s k = binV op a b fun v => k (s.set d (.va v)) := rfl
@[go_sem] theorem mIa_rt {kd : IntKind} {n : Int} {z d : Nat} : mIa .rt (.va (.int kd n)) sl sz z d s k = ((sl = true ∧ s.bx = true ∧ z = sz ∧ 0 < sz ∧ 0 ≤ n ∧ n < s.ds.length) ∧ k (s.set d (.pt n.toNat 0))) := rfl
@[go_sem] theorem mFa_pt {i j off d : Nat} : mFa (.pt i j) sz off d s k = (j + off < sz ∧ k (s.set d (.pt i (j + off)))) := rfl
@[go_sem] theorem mBox_rt {z d : Nat} : mBox .rt sl sz z d s k = ((sl = false ∧ s.bx = false ∧ z = sz ∧ 0 < sz ∧ 0 < s.ds.length) ∧ k ⟨true, s.ds, (d, .pt 0 0) :: kilP s.env⟩) := rfl
@[go_sem] theorem mLd_pt {i j z d : Nat} : mLd (.pt i j) false z d s k = (z = 1 ∧ k (s.set d (.sb i j))) := by simp [mLd]
@[go_sem] theorem mLd_ptA {i j z d : Nat} : mLd (.pt i j) true z d s k = ((j + z ≤ (D.at s.ds i).size ∧ (D.at s.ds i).isAg = true) ∧ k (s.set d (.sg i j z))) := by simp [mLd]
@[go_sem] theorem mSt_pt {i j z : Nat} {y : Value} : mSt (.pt i j) (.va y) sl sz z s k = ((sl = true ∧ z = 1 ∧ y.oneCell' = true ∧ (D.sub (D.at s.ds i) j 1 false).isSc = true ∧ (j = 0 ∧ 1 = sz ∨ (D.at s.ds i).isAg = true)) ∧
   k ⟨s.bx, s.ds.set i (D.put sz (D.at s.ds i) j 1 (.sc y)), kil s.env⟩) := rfl
end
@[go_sem] theorem MS_set_mk {d : Nat} {v : MV} : (MS.mk bx ds env).set d v = ⟨bx, ds, (d, v) :: env⟩ := rfl
@[go_sem] theorem mlk_cons {k t : Nat} {v : MV} {r : List (Nat × MV)} : mlk ((k, v) :: r) t = if k = t then v else mlk r t := rfl
@[go_sem] theorem mev_t {n : Nat} : mev env (.t n) = mlk env n := rfl
@[go_sem] theorem mev_sc {x : Value} : mev env (.c (.sc x)) = .va x := rfl
@[go_sem] theorem mEnd_normal {r : Nat} {ds' : List D} {n' : Int} {b0 : Bool} : mEnd r b0 ds' n' .normal s = ((b0 = true → s.bx = true) ∧ s.ds = ds' ∧ mlk s.env r = .va (.int .i64 n')) := rfl
@[go_sem] theorem mEnd_ret {r : Nat} {ds' : List D} {n' : Int} {b0 : Bool} : mEnd r b0 ds' n' .ret s = ((b0 = true → s.bx = true) ∧ s.ds = ds' ∧ mlk s.env r = .va (.int .i64 n')) := rfl
attribute [go_sem] kil kilV kilP Value.oneCell'

end

end Go.Ax
namespace Go.Ax
set_option linter.unusedSimpArgs false

variable {P : Program}

theorem Ent.refl (st : St) : Ent st st := fun _ _ _ _ _ _ h => h
theorem Ent.trans {a b c : St} (h : Ent a b) (k : Ent b c) : Ent a c := fun _ _ _ _ _ _ x => k _ _ _ _ _ _ (h _ _ _ _ _ _ x)

def subEnv (e : List (Nat × AV)) : List (Nat × AV) → Prop
 | [] => True
 | (k, v) :: r => lk e k = v ∧ subEnv e r

theorem subEnv_lk {e : List (Nat × AV)} : ∀ {e' : List (Nat × AV)}, subEnv e e' → ∀ t, lk e' t = .any ∨ lk e' t = lk e t
 | [], _, t => .inl rfl
 | (k, v) :: r, h, t => by
  simp only [lk]
  split
  ·next hk => subst hk; exact .inr h.1.symm
  ·exact subEnv_lk h.2 t

theorem Ent.env {n : Nat} {e e' : List (Nat × AV)} {us : List (Nat × U)} (h : subEnv e e') : Ent ⟨n, e, us⟩ ⟨n, e', us⟩ := by
 intro n0 S0 M0 w0 a w hs
 obtain ⟨g, hu, hv⟩ := hs.gh
 refine ⟨hs.ms, hs.dfr, hs.tm, hs.base, hs.os, hs.tape, hs.output, hs.size, hs.old, g, hu, fun t => ?_⟩
 rcases subEnv_lk h t with h | h
 ·simp only
  rw [h]
  simp [VRep]
 ·simp only
  rw [h]
  exact hv t

theorem Ent.del (st : St) (k : Nat) : Ent st (st.del k) := by
 intro n0 S0 M0 w0 a w hs
 obtain ⟨g, hu, hv⟩ := hs.gh
 obtain ⟨hU, hK⟩ := hu.del k
 exact ⟨hs.ms, hs.dfr, hs.tm, hs.base, hs.os, hs.tape, hs.output, hs.size, hs.old, _, hU, fun t => killE_rep (fun av v hf hr => VRep.keepR hK hf hr) (hv t)⟩

theorem Ent.perm {n : Nat} {e : List (Nat × AV)} {us us' : List (Nat × U)} (h : us'.Perm us) : Ent ⟨n, e, us⟩ ⟨n, e, us'⟩ := by
 intro n0 S0 M0 w0 a w hs
 exact hs.eqv rfl (fun _ => rfl) h

theorem vc_loop {c : RC} {st : St} {K : Exit → St → Prop} {α : Type} (F : α → St) (J : α → Prop) (μ : α → Nat) (x0 : α) (h0 : Ent st (F x0)) (hJ : J x0)
  (h : ∀ x, J x → vcR P c (F x) (kseq (fun s => ∃ y, J y ∧ μ y < μ x ∧ Ent s (F y)) K)) : vcR P (.loop c) st K := by
 refine ⟨fun n s => ∃ x, J x ∧ μ x = n ∧ s = F x, ⟨_, _, h0, x0, hJ, rfl, rfl⟩, ?_⟩
 rintro n s ⟨x, hx, rfl, rfl⟩
 have := h x hx
 have e : (kseq (fun s => ∃ y, J y ∧ μ y < μ x ∧ Ent s (F y)) K) = (kseq (fun s' => ∃ n' s'', Ent s' s'' ∧ (∃ x, J x ∧ μ x = n' ∧ s'' = F x) ∧ n' < μ x) K) := by
  congr 1
  funext s
  apply propext
  constructor
  ·rintro ⟨y, h1, h2, h3⟩
   exact ⟨_, _, h3, ⟨y, h1, rfl, rfl⟩, h2⟩
  ·rintro ⟨_, _, h3, ⟨y, h1, rfl, rfl⟩, h2⟩
   exact ⟨y, h1, h2, h3⟩
 rw [e] at this
 exact this

theorem D.LeA.refl (d : D) : d.LeA d := ⟨fun _ F _ h => ⟨F, h, fun _ hb => hb⟩, fun _ h => h⟩
theorem D.LeA.eq {d e : D} (h : d = e) : d.LeA e := h ▸ D.LeA.refl d

theorem D.LeA.sub {d e : D} {j sz : Nat} (hj : j + sz ≤ d.size) (hd : d.isAg = true) (h0 : 0 < sz) (he : D.sub d j sz true = e) : D.LeA (.pt d j) (.pt e 0) := by
 refine ⟨fun h F cs hr => ?_, fun v hv => hv⟩
 simp only [Rep] at hr
 obtain ⟨b, off, c, el, fr, F', rfl, rfl, r1, r2, r3, r4⟩ := hr
 obtain ⟨F1, F2, F3, c1, c2, c3, g1, g2, g3, g4, g5, g6⟩ := r4.sub (agg := true) hj (fun _ => hd) (by simp)
 subst he
 have hs : (D.sub d j sz true).size = sz := by rw [← g5.length, g4]
 refine ⟨b :: F2, ?_, ?_⟩
 ·simp only [Rep]
  refine ⟨b, off + j, c, el, fr, F2, by simp, rfl, by omega, r2, by omega, ?_⟩
  rw [hs]
  have e1 : (c.toList.drop (off + j)).take sz = c2 := by
   have h1 : ((c.toList.drop off).take d.size).drop j = c2 ++ c3 := by rw [g2, ← g3]; simp
   have h2 : (((c.toList.drop off).take d.size).drop j).take sz = c2 := by rw [h1, ← g4]; simp
   rw [← h2, List.drop_take, List.drop_drop, List.take_take, Nat.min_eq_left (by omega)]
  rw [e1]
  exact g5
 ·intro x hx
  rcases List.mem_cons.1 hx with rfl | hx
  ·simp
  ·rw [g1]; simp [hx]
theorem D.LeL.refl : ∀ (ds : List D), D.LeL ds ds
 | [] => trivial
 | d :: ds => ⟨D.LeA.refl d, D.LeL.refl ds⟩

theorem callQ_self {d : Option Nat} {f : Nat} {args : List AV} {un : Nat → Option U} {k : KQ} {ds : List D} {r : Ret} (ha : argsOf un args = some ds) (h : AF P f ds r)
  (hk : k (bindR (d.getD 0) (args.all AV.shared) r).1 (bindR (d.getD 0) (args.all AV.shared) r).2) : callQ P d f args un k :=
 .inl ⟨ds, ds, r, ha, D.LeL.refl ds, h, hk⟩

theorem callQ_le {d : Option Nat} {f : Nat} {args : List AV} {un : Nat → Option U} {k : KQ} {ds es : List D} {r : Ret} (ha : argsOf un args = some ds) (hl : D.LeL ds es) (h : AF P f es r)
  (hk : k (bindR (d.getD 0) (args.all AV.shared) r).1 (bindR (d.getD 0) (args.all AV.shared) r).2) : callQ P d f args un k :=
 .inl ⟨ds, es, r, ha, hl, h, hk⟩

theorem wrap_i64 {x : Int} (h1 : -9223372036854775808 ≤ x) (h2 : x ≤ 9223372036854775807) : IntKind.i64.wrap x = x := by
 simp [IntKind.wrap, IntKind.bits, IntKind.signed]
 omega

theorem at_map {α : Type} {f : α → D} {l : List α} {i : Nat} (h : i < l.length) : D.at (l.map f) i = f l[i] := by
 simp [D.at, h]

@[go_sem] theorem none_beq {k : Nat} : ((none : Option Nat) == some k) = false := rfl
@[go_sem] theorem some_beq {i k : Nat} : (some i == some k) = (i == k) := rfl
attribute [go_sem] Bool.false_eq_true

@[go_sem] theorem nn_beq_f : ((some false : Option Bool) == some true) = false := rfl
@[go_sem] theorem nn_beq_t : ((some true : Option Bool) == some true) = true := rfl
@[go_sem] theorem nn_beq_n : ((none : Option Bool) == some true) = false := rfl
attribute [go_sem] Bool.false_and Bool.true_and Bool.and_false Bool.and_true

def freeE : List (Nat × AV) → Bool
 | [] => true
 | (_, .im none _) :: r => freeE r
 | _ => false
theorem freeE_lk : ∀ {e : List (Nat × AV)}, freeE e = true → ∀ t, lk e t = .any ∨ ∃ d, lk e t = .im none d
 | [], _, t => .inl rfl
 | (k, .im none d) :: r, h, t => by
  simp only [lk]
  split
  ·exact .inr ⟨d, rfl⟩
  ·exact freeE_lk (by simpa [freeE] using h) t

theorem Ent.clear {n : Nat} {e e' : List (Nat × AV)} {us : List (Nat × U)} (h : subEnv e e') (hf : freeE e' = true) : Ent ⟨n, e, us⟩ ⟨n, e', []⟩ := by
 intro n0 S0 M0 w0 a w hs
 obtain ⟨g, hu, hv⟩ := hs.gh
 refine ⟨hs.ms, hs.dfr, hs.tm, hs.base, hs.os, hs.tape, hs.output, hs.size, hs.old, { g with φ := fun _ => [] }, ⟨by simp, by simp [fp], by simp [fp], by simp [fp], fun _ _ => rfl, fun b hb => ⟨(hu.sh b hb).1, (hu.sh b hb).2.1, by simp [fp]⟩, by simp, by simp [fp], by intro k v _ h; simp at h⟩, fun t => ?_⟩
 simp only
 rcases freeE_lk hf t with h1 | ⟨d, h1⟩
 ·rw [h1]
  simp [VRep]
 ·have h2 : lk e t = .im none d := by
   rcases subEnv_lk h t with h2 | h2
   ·rw [h1] at h2; cases h2
   ·rw [← h2, h1]
  have := hv t
  simp only [h2] at this
  rw [h1]
  simp only [VRep] at this ⊢
  obtain ⟨F, r1, r2, r3⟩ := this
  refine ⟨F, r1, r2, fun b hb => ?_⟩
  rcases r3 b hb with h | ⟨k, hk, _⟩
  ·exact .inl h
  ·cases hk

theorem bdL_mem : ∀ {ds : List D}, D.bdL ds → ∀ d ∈ ds, d.bd
 | [], _, d, h => by cases h
 | x :: ds, hb, d, h => by
  simp only [D.bdL] at hb
  rcases List.mem_cons.1 h with rfl | h
  ·exact hb.1
  ·exact bdL_mem hb.2 d h

end Go.Ax
