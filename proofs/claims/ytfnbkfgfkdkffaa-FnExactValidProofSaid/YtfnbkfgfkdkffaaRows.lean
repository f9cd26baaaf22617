/-
  NARROWER THAN 'FOR EVERY INPUT', by the rows' own cells (each row's printed sentence says how): FnExactValidProof: loops.
  DERIVED. THE GIVEN ROWS OF THIS SEAT. 2 by the template 'for every input the law returns true; each argument reads behind the call as it read before'; 0 by the template 'total and deterministic' (their statements: YtfnbkfgfkdkffaaTotals.lean).
  GIVEN WITH THE SEED: the statements are not yours to turn. If you find one false, say at which input.
  Laid BY PROGRAM, IN A SANDBOX (cutbox-rows.mjs): the forced cells as the released guide's own fill.sh prints them over the translation 62f2bad61f57fa44… (all of the seat's roots in one cut). By AI agents, Wed Nov 11 2026. No macro, syntax, notation, axiom, sorry.
-/
import Derived.Test.YtfnbkfgfkdkffaaChecked
import GoSem.Claim
import GoSem.ClaimJoined
import GoSem.ClaimMapViews
import Derived.JoinedTies
import Derived.KernelRfl
namespace Go.Proofs.Ytfnbkfgfkdkffaa
/- THE CELL 'sum', in the pinned program and in every row, IS THE sha256 OF THE DUMP (.gsa) THAT YtfnbkfgfkdkffaaProg.lean LOADS. Nothing in Lean hashes anything: it is a label: what it is worth is what the hold of that sum in a sandbox is worth. -/
noncomputable def Try.pinned : Pinned := { name := "ytfnbkfgfkdkffaa", sum := "62f2bad61f57fa44e9ee330362355d45e7baf5fc550877ca8cb8cabb0d010176", checked := Try.checked }
namespace Rows
def none {H : Type} : Left H := { results := [], args := [] }

/-- 'laws.FnExactValidProof': WHATEVER THE INPUT: true; the input reads as it did. -/
def fnExactValidProofSpec : ChangeSpec := { name := "fnExactValidProof", fn := fun _ => fun
  | [d] => { results := [.lit (.bool true)], args := [d] }
  | _ => none }
def fnExactValidProofRow : OpenClaim := { program := "ytfnbkfgfkdkffaa", sum := "62f2bad61f57fa44e9ee330362355d45e7baf5fc550877ca8cb8cabb0d010176", func := "loop.example/g01101/laws.FnExactValidProof", spec := "fnExactValidProof", recurses := true, loops := true, apart := false }
def FnExactValidProofSaid : Prop := fnExactValidProofRow.holds Try.pinned (OpenSpec.ofChange fnExactValidProofSpec)

/-- ITS FALSE NEIGHBOUR: 'it returns false'. Refute it at one input. -/
def fnExactValidProofWrong : ChangeSpec := { name := "fnExactValidProof", fn := fun _ => fun
  | [d] => { results := [.lit (.bool false)], args := [d] }
  | _ => none }
def FnExactValidProofWrongFalsely : Prop := fnExactValidProofRow.holds Try.pinned (OpenSpec.ofChange fnExactValidProofWrong)

/-- 'laws.FnExactRenumberModel': WHATEVER THE INPUT: true; the input reads as it did. -/
def fnExactRenumberModelSpec : ChangeSpec := { name := "fnExactRenumberModel", fn := fun _ => fun
  | [d1, d2] => { results := [.lit (.bool true)], args := [d1, d2] }
  | _ => none }
def fnExactRenumberModelRow : OpenClaim := { program := "ytfnbkfgfkdkffaa", sum := "62f2bad61f57fa44e9ee330362355d45e7baf5fc550877ca8cb8cabb0d010176", func := "loop.example/g01101/laws.FnExactRenumberModel", spec := "fnExactRenumberModel", unfollowed := true, recurses := true, apart := false }
def FnExactRenumberModelSaid : Prop := fnExactRenumberModelRow.holds Try.pinned (OpenSpec.ofChange fnExactRenumberModelSpec)

/-- ITS FALSE NEIGHBOUR: 'it returns false'. Refute it at one input. -/
def fnExactRenumberModelWrong : ChangeSpec := { name := "fnExactRenumberModel", fn := fun _ => fun
  | [d1, d2] => { results := [.lit (.bool false)], args := [d1, d2] }
  | _ => none }
def FnExactRenumberModelWrongFalsely : Prop := fnExactRenumberModelRow.holds Try.pinned (OpenSpec.ofChange fnExactRenumberModelWrong)

/- THE SECOND FORM. 'bulk': how many values and letters a reading holds, each counted each time it is reached (what is shared counts as often as it is met; a slice's spare places count too). A statement '..UptoSaid' is the law's where the arguments, and the package variables that the reading takes, are together of bulk at most 1048576: NARROWER than '..Said'. Prove '..Said' where nothing that the law and all that it calls make is longer than what came in: it says more and counts as full. Else prove '..UptoSaid'. A law counts once. -/
mutual
def uptoBulk {H : Type} : DataW H → Nat
  | .lit (.string bytes) => bytes.length + 1
  | .lit _ => 1
  | .nil => 1
  | .ptr d => uptoBulk d + 1
  | .slice elems spare => uptoBulkAll elems + uptoBulkAll spare + 1
  | .agg parts => uptoBulkAll parts + 1
  | .iface _ d => uptoBulk d + 1
  | .map entries => uptoBulkEntries entries + 1
  | .held _ => 1
def uptoBulkAll {H : Type} : List (DataW H) → Nat
  | [] => 0
  | d :: r => uptoBulk d + uptoBulkAll r
def uptoBulkEntries {H : Type} : List (Lit × DataW H) → Nat
  | [] => 0
  | x :: r => uptoBulkEntry x + uptoBulkEntries r
def uptoBulkEntry {H : Type} : Lit × DataW H → Nat
  | (.string bytes, d) => bytes.length + uptoBulk d + 1
  | (_, d) => uptoBulk d + 1
 end
def uptoSmall : (H : Type) → List (DataW H) → Bool := fun _ ds => decide (uptoBulkAll ds ≤ 1048576)
def OpenSpec.upto (s : _root_.Go.ChangeSpec) : _root_.Go.OpenSpec := { _root_.Go.OpenSpec.ofChange s with cond := some uptoSmall }

/-- 'laws.FnExactValidProof', WHERE WHAT IT READS IS OF BULK AT MOST 1048576: true; the input reads as it did. -/
def fnExactValidProofUptoRow : OpenClaim := { program := "ytfnbkfgfkdkffaa", sum := "62f2bad61f57fa44e9ee330362355d45e7baf5fc550877ca8cb8cabb0d010176", func := "loop.example/g01101/laws.FnExactValidProof", spec := "fnExactValidProof", recurses := true, loops := true, apart := false, narrowed := true }
def FnExactValidProofUptoSaid : Prop := fnExactValidProofUptoRow.holds Try.pinned (OpenSpec.upto fnExactValidProofSpec)

/-- 'laws.FnExactRenumberModel', WHERE WHAT IT READS IS OF BULK AT MOST 1048576: true; the input reads as it did. -/
def fnExactRenumberModelUptoRow : OpenClaim := { program := "ytfnbkfgfkdkffaa", sum := "62f2bad61f57fa44e9ee330362355d45e7baf5fc550877ca8cb8cabb0d010176", func := "loop.example/g01101/laws.FnExactRenumberModel", spec := "fnExactRenumberModel", unfollowed := true, recurses := true, apart := false, narrowed := true }
def FnExactRenumberModelUptoSaid : Prop := fnExactRenumberModelUptoRow.holds Try.pinned (OpenSpec.upto fnExactRenumberModelSpec)

end Rows
end Go.Proofs.Ytfnbkfgfkdkffaa
