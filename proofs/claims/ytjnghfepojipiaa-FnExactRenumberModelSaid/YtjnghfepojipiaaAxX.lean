/- Contracts of functions of the seat, proved over the engine. No condition. -/
import Derived.Test.YtjnghfepojipiaaEnJ
set_option linter.unusedSimpArgs false
set_option linter.unusedVariables false
set_option linter.unnecessarySimpa false
namespace Go.Ax

inductive Ex where
 | mk (k n : Int) (nn : Option Bool) (ks : List Ex)
 deriving Inhabited
def Ex.k : Ex → Int | .mk k _ _ _ => k
def Ex.n : Ex → Int | .mk _ n _ _ => n
def Ex.nn : Ex → Option Bool | .mk _ _ nn _ => nn
def Ex.ks : Ex → List Ex | .mk _ _ _ ks => ks

mutual
theorem Ex.ind {p : Ex → Prop} (h : ∀ k n nn ks, (∀ e ∈ ks, p e) → p (.mk k n nn ks)) : ∀ e, p e
 | .mk k n nn ks => h k n nn ks (Ex.indL h ks)
theorem Ex.indL {p : Ex → Prop} (h : ∀ k n nn ks, (∀ e ∈ ks, p e) → p (.mk k n nn ks)) : ∀ ks : List Ex, ∀ e ∈ ks, p e
 | [] => by simp
 | x :: ks => List.forall_mem_cons.2 ⟨Ex.ind h x, Ex.indL h ks⟩
end

mutual
def eE : Ex → D
 | .mk k n nn ks => .ag [eI k, eI n, .ls nn 3 (eEs ks)]
def eEs : List Ex → List D
 | [] => []
 | e :: es => eE e :: eEs es
end
theorem eEs_map : ∀ ks : List Ex, eEs ks = ks.map eE
 | [] => rfl
 | e :: es => by simp [eEs, eEs_map es]
theorem eE_mk (k n : Int) (nn : Option Bool) (ks : List Ex) : eE (.mk k n nn ks) = .ag [.sc (.int .i64 k), .sc (.int .i64 n), .ls nn 3 (ks.map eE)] := by rw [eE, eEs_map]; rfl
@[go_sem] theorem eE_flat (e : Ex) : (eE e).flat = false := by cases e; rw [eE_mk]; rfl
end Go.Ax
