/- Contracts of functions of the seat, proved over the engine. No condition. -/
import Derived.Test.YtohakobkclkniaaDoorX1
set_option linter.unusedSimpArgs false
set_option linter.unusedVariables false
set_option linter.unnecessarySimpa false
namespace Go.Ax

inductive Pg where
 | mk (k n : Int) (c : Ex) (nn : Option Bool) (ks : List Pg)
 deriving Inhabited

mutual
theorem Pg.ind {p : Pg → Prop} (h : ∀ k n c nn ks, (∀ e ∈ ks, p e) → p (.mk k n c nn ks)) : ∀ e, p e
 | .mk k n c nn ks => h k n c nn ks (Pg.indL h ks)
theorem Pg.indL {p : Pg → Prop} (h : ∀ k n c nn ks, (∀ e ∈ ks, p e) → p (.mk k n c nn ks)) : ∀ ks : List Pg, ∀ e ∈ ks, p e
 | [] => by simp
 | x :: ks => List.forall_mem_cons.2 ⟨Pg.ind h x, Pg.indL h ks⟩
end

theorem eE_eta (e : Ex) : eE e = .ag [.sc (.int .i64 e.k), .sc (.int .i64 e.n), .ls e.nn 3 (e.ks.map eE)] := by cases e; rw [eE_mk]; rfl

mutual
def eP : Pg → D
 | .mk k n c nn ks => .ag [eI k, eI n, eI c.k, eI c.n, .ls c.nn 3 (c.ks.map eE), .ls nn 6 (ePs ks)]
def ePs : List Pg → List D
 | [] => []
 | e :: es => eP e :: ePs es
end
theorem ePs_map : ∀ ks : List Pg, ePs ks = ks.map eP
 | [] => rfl
 | e :: es => by simp [ePs, ePs_map es]
theorem eP_mk (k n : Int) (c : Ex) (nn : Option Bool) (ks : List Pg) : eP (.mk k n c nn ks) = .ag [.sc (.int .i64 k), .sc (.int .i64 n), .sc (.int .i64 c.k), .sc (.int .i64 c.n), .ls c.nn 3 (c.ks.map eE), .ls nn 6 (ks.map eP)] := by rw [eP, ePs_map]; rfl
theorem eP_size (e : Pg) : (eP e).size = 6 := by cases e; rw [eP_mk]; rfl
theorem eP_isAg (e : Pg) : (eP e).isAg = true := by cases e; rw [eP_mk]; rfl
@[go_sem] theorem eP_flat (e : Pg) : (eP e).flat = false := by cases e; rw [eP_mk]; rfl
theorem encP : Enc eP 6 true := ⟨by omega, eP_size, eP_isAg, fun x => by cases x; rw [eP_mk]; rfl⟩

mutual
def szP : Pg → Int → Int
 | .mk _ _ c _ ks => fun l => nx (szE c l) fun l => nx (szPs ks (cut (l - ks.length))) fun l => l
def szPs : List Pg → Int → Int
 | [] => fun l => l
 | e :: es => fun l => if l < 0 then l else szPs es (szP e l)
end
theorem szPs_eq : ∀ (ks : List Pg) (l : Int), szPs ks l = szL szP ks l
 | [], _ => rfl
 | e :: es, l => by simp only [szPs, szL, szPs_eq es]
theorem szP_mk (k n : Int) (c : Ex) (nn : Option Bool) (ks : List Pg) (l : Int) : szP (.mk k n c nn ks) l = nx (szE c l) fun l => nx (szS szP (nn, ks) l) fun l => l := by
 rw [szP]
 simp only [szPs_eq, szS]
mutual
def tP : Pg → Pg
 | .mk k n c _ ks => .mk k n (tE c) (some false) (tPs ks)
def tPs : List Pg → List Pg
 | [] => []
 | e :: es => tP e :: tPs es
end
theorem tPs_map : ∀ ks : List Pg, tPs ks = ks.map tP
 | [] => rfl
 | e :: es => by simp [tPs, tPs_map es]
theorem tP_mk (k n : Int) (c : Ex) (nn : Option Bool) (ks : List Pg) : tP (.mk k n c nn ks) = .mk k n (tE c) (some false) (ks.map tP) := by rw [tP, tPs_map]
mutual
def qP : Pg → Pg → Bool
 | .mk k n c _ ks, .mk k' n' c' _ ks' => (k == k') && ((n == n') && (qE c c' && qPs ks ks'))
def qPs : List Pg → List Pg → Bool
 | [], [] => true
 | x :: a, y :: b => qP x y && qPs a b
 | _, _ => false
end
theorem qPs_eq : ∀ (a b : List Pg), qPs a b = eqL qP a b
 | [], [] => by simp [qPs, eqL]
 | x :: a, y :: b => by simp only [qPs, eqL, qPs_eq a b]
 | [], _ :: _ => by simp [qPs, eqL]
 | _ :: _, [] => by simp [qPs, eqL]
theorem qP_mk (k n : Int) (c : Ex) (nn : Option Bool) (ks : List Pg) (k' n' : Int) (c' : Ex) (nn' : Option Bool) (ks' : List Pg) : qP (.mk k n c nn ks) (.mk k' n' c' nn' ks') = ((k == k') && ((n == n') && (qE c c' && eqL qP ks ks'))) := by
 rw [qP, qPs_eq]
mutual
def fitP : Pg → Prop
 | .mk _ _ c _ ks => fitE c ∧ ks.length ≤ 1048576 ∧ fitPs ks
def fitPs : List Pg → Prop
 | [] => True
 | e :: es => fitP e ∧ fitPs es
end
theorem fitPs_iff : ∀ ks : List Pg, fitPs ks ↔ ∀ x ∈ ks, fitP x
 | [] => by simp [fitPs]
 | e :: es => by simp [fitPs, fitPs_iff es]
theorem fitP_mk (k n : Int) (c : Ex) (nn : Option Bool) (ks : List Pg) : fitP (.mk k n c nn ks) ↔ fitE c ∧ ks.length ≤ 1048576 ∧ ∀ x ∈ ks, fitP x := by rw [fitP, fitPs_iff]

theorem szP_in : ∀ (e : Pg) (l : Int), 0 ≤ l → l ≤ 1048576 → -1 ≤ szP e l ∧ szP e l ≤ l :=
 Pg.ind fun k n c nn ks ih l h1 h2 => by
  rw [szP_mk]
  refine in_tr (Int.le_refl l) (nx_in (szE_in c l h1 h2) h1 h2 fun y a b => ?_)
  refine in_tr b (nx_in (szS_in ih a (by omega)) a (by omega) fun y a b => ⟨by omega, b⟩)
theorem szP_fit : ∀ (e : Pg) (l : Int), l ≤ 1048576 → 0 ≤ l → 0 ≤ szP e l → fitP e :=
 Pg.ind fun k n c nn ks ih l h2 h1 h => by
  rw [szP_mk] at h
  rw [fitP_mk]
  obtain ⟨p, h⟩ := nx_fit h
  obtain ⟨p', _⟩ := nx_fit h
  have b := szE_in c l h1 h2
  exact ⟨szE_fit c l h2 h1 p, szS_fit (fun x _ => szP_in x) ih (by omega) p p'⟩
theorem qP_refl : ∀ e : Pg, qP e e = true :=
 Pg.ind fun k n c nn ks ih => by
  rw [qP_mk, eqL_refl ih, qE_refl]
  simp
end Go.Ax
