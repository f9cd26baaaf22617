/- Contracts of functions of the seat, proved over the engine. No condition. -/
import Derived.Test.YtjnghfepojipiaaX90
set_option linter.unusedSimpArgs false
set_option linter.unusedVariables false
set_option linter.unnecessarySimpa false
namespace Go.Ax

def setE : List Int → Ex → Ex → Ex
 | [], _, v => v
 | x :: xs, .mk k n nn ks, v => .mk k n nn (ks.set x.toNat (setE xs (ks.getD x.toNat default) v))
theorem setE_nil {e v : Ex} : setE [] e v = v := by rw [setE]
theorem setE_cons {x : Int} {xs : List Int} {k n : Int} {nn : Option Bool} {ks : List Ex} {v : Ex} : setE (x :: xs) (.mk k n nn ks) v = .mk k n nn (ks.set x.toNat (setE xs (ks.getD x.toNat default) v)) := by rw [setE]

theorem atE_cpE : ∀ (xs : List Int) (e : Ex) (b : Bool), atE (cpE e) xs b = (cpE (atE e xs b).1, (atE e xs b).2)
 | [], e, b => by rw [atE, atE]
 | p :: ps, e, b => by
  obtain ⟨k, n, nn, ks, rfl⟩ := Ex.ex e
  rw [atE, atE, cpE_mk, Ex.ks_mk, Ex.ks_mk, Ex.k_mk, Ex.k_mk, List.length_map]
  split
  ·next h =>
   have hp := isIn_lt h
   rw [show (ks.map cpE).getD p.toNat default = cpE (ks.getD p.toNat default) by simp [hp.2.2]]
   exact atE_cpE ps _ _
  ·rw [← cpE_mk (nn := nn)]

theorem setE_put : ∀ (xs : List Int) (e : Ex) (b : Bool) (r : Ex), (atE e xs b).2.2 = true → setE xs (cpE e) (cpE r) = putAt xs e r
 | [], e, b, r, _ => by rw [setE_nil, putAt_nil]
 | x :: xs, e, b, r, h => by
  obtain ⟨k, n, nn, ks, rfl⟩ := Ex.ex e
  rw [atE, Ex.ks_mk, Ex.k_mk] at h
  split at h
  ·next hi =>
   have hp := isIn_lt hi
   rw [cpE_mk, setE_cons, putAt_cons]
   rw [show (ks.map cpE).getD x.toNat default = cpE (ks.getD x.toNat default) by simp [hp.2.2]]
   rw [setE_put xs _ _ r h]
   have hnn : nnL ks = nnL (List.range ks.length) := by
    rw [nnL_pos (l := ks) (by omega), nnL_pos (l := List.range ks.length) (by simp; omega)]
   rw [hnn]
   congr 1
   apply List.ext_getElem?
   intro i
   rw [List.getElem?_set, List.getElem?_map, List.getElem?_map]
   by_cases hl : i < ks.length
   ·have hd : ks.getD i E0 = ks[i] := by simp [hl]
    by_cases hx : x.toNat = i
    ·subst hx
     have hd2 : ks.getD x.toNat default = ks[x.toNat] := by simp [hl]
     have : ((x.toNat : Nat) : Int) = x := by omega
     simp [hl, this]
    ·have : ¬ ((i : Nat) : Int) = x := by omega
     simp [hl, hx, this]
   ·have : ¬ x.toNat = i := by omega
    simp [hl, this]
  ·cases h
end Go.Ax
