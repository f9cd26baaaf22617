/- Contracts of functions of the seat, proved over the engine. No condition. -/
import Derived.Test.YtohakobkclkniaaDoorX40
import Derived.Test.YtohakobkclkniaaDoorX8
import Derived.Test.YtohakobkclkniaaDoorX4
import Derived.Test.YtohakobkclkniaaDoorX31
set_option linter.unusedSimpArgs false
set_option linter.unusedVariables false
set_option linter.unnecessarySimpa false
namespace Go.Ax
set_option linter.unusedSimpArgs false
set_option maxRecDepth 20000
set_option maxHeartbeats 4000000
structure MoOk (m : Mo) (n : Nat) : Prop where
 pts : m.2.1 = (n : Int)
 n1 : 1 ≤ n
 n8 : n ≤ 8
 g : okG m.1 = true
 tl : (m.2.2.1.2.length : Int) = m.1.1
 tr : ∀ r ∈ m.2.2.1.2, r.2.length = n
 al : (m.2.2.2.2.length : Int) = m.1.2
 asq : ∀ a ∈ m.2.2.2.2, Sq n a
theorem okMo_ok {m : Mo} (h : okMo m = true) : ∃ n, MoOk m n := by
 have hp := okMo_pts h
 simp only [okMo, testsOk, actsOk, tabOk, Bool.and_eq_true, List.all_eq_true, lenIs, beq_iff_eq] at h
 obtain ⟨⟨hg, _, ht, htr⟩, ha, har⟩ := h
 exact ⟨m.2.1.toNat, by omega, by omega, by omega, hg, ht, fun r hr => by have := htr r hr; omega, ha, fun a hx => ⟨by have := (har a hx).1; omega, fun r hr => by have := (har a hx).2 r hr; omega⟩⟩
end Go.Ax
