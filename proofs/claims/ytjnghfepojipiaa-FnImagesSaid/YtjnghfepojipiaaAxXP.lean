/- Contracts of functions of the seat, proved over the engine. No condition. -/
import Derived.Test.YtjnghfepojipiaaX1
set_option linter.unusedSimpArgs false
set_option linter.unusedVariables false
set_option linter.unnecessarySimpa false
namespace Go.Ax

inductive Pg where
 | mk (k n : Int) (c : Ex) (nn : Option Bool) (ks : List Pg)
 deriving Inhabited

mutual
theorem Pg.ind {p : Pg → Prop} (h : ∀ k n c nn ks, (∀ e ∈ ks, p e) → p (.mk k n c nn ks)) : ∀ e, p e
 | .mk k n c nn ks => h k n c nn ks (Pg.indL h ks)
theorem Pg.indL {p : Pg → Prop} (h : ∀ k n c nn ks, (∀ e ∈ ks, p e) → p (.mk k n c nn ks)) : ∀ ks : List Pg, ∀ e ∈ ks, p e
 | [] => by simp
 | x :: ks => List.forall_mem_cons.2 ⟨Pg.ind h x, Pg.indL h ks⟩
end

theorem eE_eta (e : Ex) : eE e = .ag [.sc (.int .i64 e.k), .sc (.int .i64 e.n), .ls e.nn 3 (e.ks.map eE)] := by cases e; rw [eE_mk]; rfl

mutual
def eP : Pg → D
 | .mk k n c nn ks => .ag [eI k, eI n, eI c.k, eI c.n, .ls c.nn 3 (c.ks.map eE), .ls nn 6 (ePs ks)]
def ePs : List Pg → List D
 | [] => []
 | e :: es => eP e :: ePs es
end
theorem ePs_map : ∀ ks : List Pg, ePs ks = ks.map eP
 | [] => rfl
 | e :: es => by simp [ePs, ePs_map es]
theorem eP_mk (k n : Int) (c : Ex) (nn : Option Bool) (ks : List Pg) : eP (.mk k n c nn ks) = .ag [.sc (.int .i64 k), .sc (.int .i64 n), .sc (.int .i64 c.k), .sc (.int .i64 c.n), .ls c.nn 3 (c.ks.map eE), .ls nn 6 (ks.map eP)] := by rw [eP, ePs_map]; rfl
@[go_sem] theorem eP_flat (e : Pg) : (eP e).flat = false := by cases e; rw [eP_mk]; rfl
end Go.Ax
