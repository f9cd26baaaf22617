/- Contracts of functions of the seat, proved over the engine. No condition. -/
import Derived.Test.YtjnghfepojipiaaEnH
set_option linter.unusedSimpArgs false
set_option linter.unusedVariables false
set_option linter.unnecessarySimpa false
namespace Go.Ax

inductive Ex where
 | mk (k n : Int) (nn : Option Bool) (ks : List Ex)
 deriving Inhabited
def Ex.k : Ex → Int | .mk k _ _ _ => k
def Ex.n : Ex → Int | .mk _ n _ _ => n
def Ex.nn : Ex → Option Bool | .mk _ _ nn _ => nn
def Ex.ks : Ex → List Ex | .mk _ _ _ ks => ks

mutual
theorem Ex.ind {p : Ex → Prop} (h : ∀ k n nn ks, (∀ e ∈ ks, p e) → p (.mk k n nn ks)) : ∀ e, p e
 | .mk k n nn ks => h k n nn ks (Ex.indL h ks)
theorem Ex.indL {p : Ex → Prop} (h : ∀ k n nn ks, (∀ e ∈ ks, p e) → p (.mk k n nn ks)) : ∀ ks : List Ex, ∀ e ∈ ks, p e
 | [] => by simp
 | x :: ks => List.forall_mem_cons.2 ⟨Ex.ind h x, Ex.indL h ks⟩
end

mutual
def eE : Ex → D
 | .mk k n nn ks => .ag [eI k, eI n, .ls nn 3 (eEs ks)]
def eEs : List Ex → List D
 | [] => []
 | e :: es => eE e :: eEs es
end
theorem eEs_map : ∀ ks : List Ex, eEs ks = ks.map eE
 | [] => rfl
 | e :: es => by simp [eEs, eEs_map es]
theorem eE_mk (k n : Int) (nn : Option Bool) (ks : List Ex) : eE (.mk k n nn ks) = .ag [.sc (.int .i64 k), .sc (.int .i64 n), .ls nn 3 (ks.map eE)] := by rw [eE, eEs_map]; rfl
theorem eE_size (e : Ex) : (eE e).size = 3 := by cases e; rw [eE_mk]; rfl
theorem eE_isAg (e : Ex) : (eE e).isAg = true := by cases e; rw [eE_mk]; rfl
@[go_sem] theorem eE_flat (e : Ex) : (eE e).flat = false := by cases e; rw [eE_mk]; rfl
theorem encE : Enc eE 3 true := ⟨by omega, eE_size, eE_isAg, fun x => by cases x; rw [eE_mk]; rfl⟩

mutual
def fitE : Ex → Prop
 | .mk _ _ _ ks => ks.length ≤ 1048576 ∧ fitEs ks
def fitEs : List Ex → Prop
 | [] => True
 | e :: es => fitE e ∧ fitEs es
end
theorem fitEs_iff : ∀ ks : List Ex, fitEs ks ↔ ∀ x ∈ ks, fitE x
 | [] => by simp [fitEs]
 | e :: es => by simp [fitEs, fitEs_iff es]
theorem fitE_mk (k n : Int) (nn : Option Bool) (ks : List Ex) : fitE (.mk k n nn ks) ↔ ks.length ≤ 1048576 ∧ ∀ x ∈ ks, fitE x := by rw [fitE, fitEs_iff]

end Go.Ax
