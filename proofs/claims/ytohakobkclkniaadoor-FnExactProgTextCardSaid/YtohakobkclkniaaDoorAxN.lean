/- Contracts of functions of the seat, proved over the engine. No condition. -/
import Derived.Test.YtohakobkclkniaaDoorEnH
set_option linter.unusedSimpArgs false
set_option linter.unusedVariables false
set_option linter.unnecessarySimpa false
namespace Go.Ax

def delsS : List Nat → St → St
 | [], st => st
 | k :: ks, st => delsS ks (st.del k)
@[go_sem] theorem delsS_nil {st : St} : delsS [] st = st := rfl
@[go_sem] theorem delsS_cons {k : Nat} {ks : List Nat} {st : St} : delsS (k :: ks) st = delsS ks (st.del k) := rfl

theorem AF.sh {P : Program} {f : Nat} {ds : List D} {d : D} (h : AF P f ds (.own d)) : AF P f ds (.sh d) := by
 refine ⟨h.1, fun w vs old ha => (h.2 w vs old ha).mono ?_⟩
 rintro e w' ⟨v, F, G, rfl, hB, hR, hn, hF, hG⟩
 simp only [RetRep] at hR
 obtain ⟨rfl, hR, hf⟩ := hR
 refine ⟨v, [], F, rfl, hB, by simp only [RetRep]; exact ⟨trivial, hR, hf⟩, List.nodup_nil, by simp, fun b hb => .inl ⟨(hF b hb).1, hR.lt b hb⟩⟩

end Go.Ax
