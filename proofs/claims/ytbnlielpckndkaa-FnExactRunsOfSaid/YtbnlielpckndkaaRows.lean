/-
  NARROWER THAN 'FOR EVERY INPUT', by the rows' own cells (each row's printed sentence says how): FnExactSubstitute: loops · FnExactFitExpr: loops · FnExactProgExpr: loops · FnExactValidProof: loops · FnExactFirstPair: loops · FnExactRelationOf: loops · FnExactHoldsIn: loops.
  DERIVED. THE GIVEN ROWS OF THIS SEAT. 10 by the template 'for every input the law returns true; each argument reads behind the call as it read before'; 0 by the template 'total and deterministic' (their statements: YtbnlielpckndkaaTotals.lean).
  GIVEN WITH THE SEED: the statements are not yours to turn. If you find one false, say at which input.
  Laid BY PROGRAM, IN A SANDBOX (cutbox-rows.mjs): the forced cells as the released guide's own fill.sh prints them over the translation 786e8ee37bcf4f2e… (all of the seat's roots in one cut). By AI agents, Wed Nov 11 2026. No macro, syntax, notation, axiom, sorry.
-/
import Derived.Test.YtbnlielpckndkaaChecked
import GoSem.Claim
import GoSem.ClaimJoined
import GoSem.ClaimMapViews
import Derived.JoinedTies
import Derived.KernelRfl
namespace Go.Proofs.Ytbnlielpckndkaa
/- THE CELL 'sum', in the pinned program and in every row, IS THE sha256 OF THE DUMP (.gsa) THAT YtbnlielpckndkaaProg.lean LOADS. Nothing in Lean hashes anything: it is a label: what it is worth is what the hold of that sum in a sandbox is worth. -/
noncomputable def Try.pinned : Pinned := { name := "ytbnlielpckndkaa", sum := "786e8ee37bcf4f2e3c051e51a5668f6e63dc39572bc1527aab63a903846acb9f", checked := Try.checked }
namespace Rows
def none {H : Type} : Left H := { results := [], args := [] }

/-- 'laws.FnExactRestrictModel': WHATEVER THE INPUT: true; the input reads as it did. -/
def fnExactRestrictModelSpec : ChangeSpec := { name := "fnExactRestrictModel", fn := fun _ => fun
  | [d1, d2] => { results := [.lit (.bool true)], args := [d1, d2] }
  | _ => none }
def fnExactRestrictModelRow : OpenClaim := { program := "ytbnlielpckndkaa", sum := "786e8ee37bcf4f2e3c051e51a5668f6e63dc39572bc1527aab63a903846acb9f", func := "loop.example/g01101/laws.FnExactRestrictModel", spec := "fnExactRestrictModel", unfollowed := true, recurses := true, apart := false }
def FnExactRestrictModelSaid : Prop := fnExactRestrictModelRow.holds Try.pinned (OpenSpec.ofChange fnExactRestrictModelSpec)

/-- ITS FALSE NEIGHBOUR: 'it returns false'. Refute it at one input. -/
def fnExactRestrictModelWrong : ChangeSpec := { name := "fnExactRestrictModel", fn := fun _ => fun
  | [d1, d2] => { results := [.lit (.bool false)], args := [d1, d2] }
  | _ => none }
def FnExactRestrictModelWrongFalsely : Prop := fnExactRestrictModelRow.holds Try.pinned (OpenSpec.ofChange fnExactRestrictModelWrong)

/-- 'laws.FnExactSubstitute': WHATEVER THE INPUT: true; the input reads as it did. -/
def fnExactSubstituteSpec : ChangeSpec := { name := "fnExactSubstitute", fn := fun _ => fun
  | [d1, d2, d3, d4] => { results := [.lit (.bool true)], args := [d1, d2, d3, d4] }
  | _ => none }
def fnExactSubstituteRow : OpenClaim := { program := "ytbnlielpckndkaa", sum := "786e8ee37bcf4f2e3c051e51a5668f6e63dc39572bc1527aab63a903846acb9f", func := "loop.example/g01101/laws.FnExactSubstitute", spec := "fnExactSubstitute", recurses := true, loops := true, apart := false }
def FnExactSubstituteSaid : Prop := fnExactSubstituteRow.holds Try.pinned (OpenSpec.ofChange fnExactSubstituteSpec)

/-- ITS FALSE NEIGHBOUR: 'it returns false'. Refute it at one input. -/
def fnExactSubstituteWrong : ChangeSpec := { name := "fnExactSubstitute", fn := fun _ => fun
  | [d1, d2, d3, d4] => { results := [.lit (.bool false)], args := [d1, d2, d3, d4] }
  | _ => none }
def FnExactSubstituteWrongFalsely : Prop := fnExactSubstituteRow.holds Try.pinned (OpenSpec.ofChange fnExactSubstituteWrong)

/-- 'laws.FnExactFitExpr': WHATEVER THE INPUT: true; the input reads as it did. -/
def fnExactFitExprSpec : ChangeSpec := { name := "fnExactFitExpr", fn := fun _ => fun
  | [d1, d2, d3] => { results := [.lit (.bool true)], args := [d1, d2, d3] }
  | _ => none }
def fnExactFitExprRow : OpenClaim := { program := "ytbnlielpckndkaa", sum := "786e8ee37bcf4f2e3c051e51a5668f6e63dc39572bc1527aab63a903846acb9f", func := "loop.example/g01101/laws.FnExactFitExpr", spec := "fnExactFitExpr", unfollowed := true, recurses := true, loops := true, apart := false }
def FnExactFitExprSaid : Prop := fnExactFitExprRow.holds Try.pinned (OpenSpec.ofChange fnExactFitExprSpec)

/-- ITS FALSE NEIGHBOUR: 'it returns false'. Refute it at one input. -/
def fnExactFitExprWrong : ChangeSpec := { name := "fnExactFitExpr", fn := fun _ => fun
  | [d1, d2, d3] => { results := [.lit (.bool false)], args := [d1, d2, d3] }
  | _ => none }
def FnExactFitExprWrongFalsely : Prop := fnExactFitExprRow.holds Try.pinned (OpenSpec.ofChange fnExactFitExprWrong)

/-- 'laws.FnExactRunsOf': WHATEVER THE INPUT: true; the input reads as it did. -/
def fnExactRunsOfSpec : ChangeSpec := { name := "fnExactRunsOf", fn := fun _ => fun
  | [d1, d2] => { results := [.lit (.bool true)], args := [d1, d2] }
  | _ => none }
def fnExactRunsOfRow : OpenClaim := { program := "ytbnlielpckndkaa", sum := "786e8ee37bcf4f2e3c051e51a5668f6e63dc39572bc1527aab63a903846acb9f", func := "loop.example/g01101/laws.FnExactRunsOf", spec := "fnExactRunsOf", unfollowed := true, recurses := true, apart := false }
def FnExactRunsOfSaid : Prop := fnExactRunsOfRow.holds Try.pinned (OpenSpec.ofChange fnExactRunsOfSpec)

/-- ITS FALSE NEIGHBOUR: 'it returns false'. Refute it at one input. -/
def fnExactRunsOfWrong : ChangeSpec := { name := "fnExactRunsOf", fn := fun _ => fun
  | [d1, d2] => { results := [.lit (.bool false)], args := [d1, d2] }
  | _ => none }
def FnExactRunsOfWrongFalsely : Prop := fnExactRunsOfRow.holds Try.pinned (OpenSpec.ofChange fnExactRunsOfWrong)

/-- 'laws.FnExactSupportOf': WHATEVER THE INPUT: true; the input reads as it did. -/
def fnExactSupportOfSpec : ChangeSpec := { name := "fnExactSupportOf", fn := fun _ => fun
  | [d] => { results := [.lit (.bool true)], args := [d] }
  | _ => none }
def fnExactSupportOfRow : OpenClaim := { program := "ytbnlielpckndkaa", sum := "786e8ee37bcf4f2e3c051e51a5668f6e63dc39572bc1527aab63a903846acb9f", func := "loop.example/g01101/laws.FnExactSupportOf", spec := "fnExactSupportOf", unfollowed := true, recurses := true, apart := false }
def FnExactSupportOfSaid : Prop := fnExactSupportOfRow.holds Try.pinned (OpenSpec.ofChange fnExactSupportOfSpec)

/-- ITS FALSE NEIGHBOUR: 'it returns false'. Refute it at one input. -/
def fnExactSupportOfWrong : ChangeSpec := { name := "fnExactSupportOf", fn := fun _ => fun
  | [d] => { results := [.lit (.bool false)], args := [d] }
  | _ => none }
def FnExactSupportOfWrongFalsely : Prop := fnExactSupportOfRow.holds Try.pinned (OpenSpec.ofChange fnExactSupportOfWrong)

/-- 'laws.FnExactProgExpr': WHATEVER THE INPUT: true; the input reads as it did. -/
def fnExactProgExprSpec : ChangeSpec := { name := "fnExactProgExpr", fn := fun _ => fun
  | [d1, d2] => { results := [.lit (.bool true)], args := [d1, d2] }
  | _ => none }
def fnExactProgExprRow : OpenClaim := { program := "ytbnlielpckndkaa", sum := "786e8ee37bcf4f2e3c051e51a5668f6e63dc39572bc1527aab63a903846acb9f", func := "loop.example/g01101/laws.FnExactProgExpr", spec := "fnExactProgExpr", recurses := true, loops := true, apart := false }
def FnExactProgExprSaid : Prop := fnExactProgExprRow.holds Try.pinned (OpenSpec.ofChange fnExactProgExprSpec)

/-- ITS FALSE NEIGHBOUR: 'it returns false'. Refute it at one input. -/
def fnExactProgExprWrong : ChangeSpec := { name := "fnExactProgExpr", fn := fun _ => fun
  | [d1, d2] => { results := [.lit (.bool false)], args := [d1, d2] }
  | _ => none }
def FnExactProgExprWrongFalsely : Prop := fnExactProgExprRow.holds Try.pinned (OpenSpec.ofChange fnExactProgExprWrong)

/-- 'laws.FnExactValidProof': WHATEVER THE INPUT: true; the input reads as it did. -/
def fnExactValidProofSpec : ChangeSpec := { name := "fnExactValidProof", fn := fun _ => fun
  | [d] => { results := [.lit (.bool true)], args := [d] }
  | _ => none }
def fnExactValidProofRow : OpenClaim := { program := "ytbnlielpckndkaa", sum := "786e8ee37bcf4f2e3c051e51a5668f6e63dc39572bc1527aab63a903846acb9f", func := "loop.example/g01101/laws.FnExactValidProof", spec := "fnExactValidProof", recurses := true, loops := true, apart := false }
def FnExactValidProofSaid : Prop := fnExactValidProofRow.holds Try.pinned (OpenSpec.ofChange fnExactValidProofSpec)

/-- ITS FALSE NEIGHBOUR: 'it returns false'. Refute it at one input. -/
def fnExactValidProofWrong : ChangeSpec := { name := "fnExactValidProof", fn := fun _ => fun
  | [d] => { results := [.lit (.bool false)], args := [d] }
  | _ => none }
def FnExactValidProofWrongFalsely : Prop := fnExactValidProofRow.holds Try.pinned (OpenSpec.ofChange fnExactValidProofWrong)

/-- 'laws.FnExactFirstPair': WHATEVER THE INPUT: true; the input reads as it did. -/
def fnExactFirstPairSpec : ChangeSpec := { name := "fnExactFirstPair", fn := fun _ => fun
  | [d1, d2] => { results := [.lit (.bool true)], args := [d1, d2] }
  | _ => none }
def fnExactFirstPairRow : OpenClaim := { program := "ytbnlielpckndkaa", sum := "786e8ee37bcf4f2e3c051e51a5668f6e63dc39572bc1527aab63a903846acb9f", func := "loop.example/g01101/laws.FnExactFirstPair", spec := "fnExactFirstPair", unfollowed := true, recurses := true, loops := true, apart := false }
def FnExactFirstPairSaid : Prop := fnExactFirstPairRow.holds Try.pinned (OpenSpec.ofChange fnExactFirstPairSpec)

/-- ITS FALSE NEIGHBOUR: 'it returns false'. Refute it at one input. -/
def fnExactFirstPairWrong : ChangeSpec := { name := "fnExactFirstPair", fn := fun _ => fun
  | [d1, d2] => { results := [.lit (.bool false)], args := [d1, d2] }
  | _ => none }
def FnExactFirstPairWrongFalsely : Prop := fnExactFirstPairRow.holds Try.pinned (OpenSpec.ofChange fnExactFirstPairWrong)

/-- 'laws.FnExactRelationOf': WHATEVER THE INPUT: true; the input reads as it did. -/
def fnExactRelationOfSpec : ChangeSpec := { name := "fnExactRelationOf", fn := fun _ => fun
  | [d1, d2] => { results := [.lit (.bool true)], args := [d1, d2] }
  | _ => none }
def fnExactRelationOfRow : OpenClaim := { program := "ytbnlielpckndkaa", sum := "786e8ee37bcf4f2e3c051e51a5668f6e63dc39572bc1527aab63a903846acb9f", func := "loop.example/g01101/laws.FnExactRelationOf", spec := "fnExactRelationOf", unfollowed := true, recurses := true, loops := true, apart := false }
def FnExactRelationOfSaid : Prop := fnExactRelationOfRow.holds Try.pinned (OpenSpec.ofChange fnExactRelationOfSpec)

/-- ITS FALSE NEIGHBOUR: 'it returns false'. Refute it at one input. -/
def fnExactRelationOfWrong : ChangeSpec := { name := "fnExactRelationOf", fn := fun _ => fun
  | [d1, d2] => { results := [.lit (.bool false)], args := [d1, d2] }
  | _ => none }
def FnExactRelationOfWrongFalsely : Prop := fnExactRelationOfRow.holds Try.pinned (OpenSpec.ofChange fnExactRelationOfWrong)

/-- 'laws.FnExactHoldsIn': WHATEVER THE INPUT: true; the input reads as it did. -/
def fnExactHoldsInSpec : ChangeSpec := { name := "fnExactHoldsIn", fn := fun _ => fun
  | [d1, d2] => { results := [.lit (.bool true)], args := [d1, d2] }
  | _ => none }
def fnExactHoldsInRow : OpenClaim := { program := "ytbnlielpckndkaa", sum := "786e8ee37bcf4f2e3c051e51a5668f6e63dc39572bc1527aab63a903846acb9f", func := "loop.example/g01101/laws.FnExactHoldsIn", spec := "fnExactHoldsIn", unfollowed := true, recurses := true, loops := true, apart := false }
def FnExactHoldsInSaid : Prop := fnExactHoldsInRow.holds Try.pinned (OpenSpec.ofChange fnExactHoldsInSpec)

/-- ITS FALSE NEIGHBOUR: 'it returns false'. Refute it at one input. -/
def fnExactHoldsInWrong : ChangeSpec := { name := "fnExactHoldsIn", fn := fun _ => fun
  | [d1, d2] => { results := [.lit (.bool false)], args := [d1, d2] }
  | _ => none }
def FnExactHoldsInWrongFalsely : Prop := fnExactHoldsInRow.holds Try.pinned (OpenSpec.ofChange fnExactHoldsInWrong)

/- THE SECOND FORM. 'bulk': how many values and letters a reading holds, each counted each time it is reached (what is shared counts as often as it is met; a slice's spare places count too). A statement '..UptoSaid' is the law's where the arguments, and the package variables that the reading takes, are together of bulk at most 1048576: NARROWER than '..Said'. Prove '..Said' where nothing that the law and all that it calls make is longer than what came in: it says more and counts as full. Else prove '..UptoSaid'. A law counts once. -/
mutual
def uptoBulk {H : Type} : DataW H → Nat
  | .lit (.string bytes) => bytes.length + 1
  | .lit _ => 1
  | .nil => 1
  | .ptr d => uptoBulk d + 1
  | .slice elems spare => uptoBulkAll elems + uptoBulkAll spare + 1
  | .agg parts => uptoBulkAll parts + 1
  | .iface _ d => uptoBulk d + 1
  | .map entries => uptoBulkEntries entries + 1
  | .held _ => 1
def uptoBulkAll {H : Type} : List (DataW H) → Nat
  | [] => 0
  | d :: r => uptoBulk d + uptoBulkAll r
def uptoBulkEntries {H : Type} : List (Lit × DataW H) → Nat
  | [] => 0
  | x :: r => uptoBulkEntry x + uptoBulkEntries r
def uptoBulkEntry {H : Type} : Lit × DataW H → Nat
  | (.string bytes, d) => bytes.length + uptoBulk d + 1
  | (_, d) => uptoBulk d + 1
 end
def uptoSmall : (H : Type) → List (DataW H) → Bool := fun _ ds => decide (uptoBulkAll ds ≤ 1048576)
def OpenSpec.upto (s : _root_.Go.ChangeSpec) : _root_.Go.OpenSpec := { _root_.Go.OpenSpec.ofChange s with cond := some uptoSmall }

/-- 'laws.FnExactRestrictModel', WHERE WHAT IT READS IS OF BULK AT MOST 1048576: true; the input reads as it did. -/
def fnExactRestrictModelUptoRow : OpenClaim := { program := "ytbnlielpckndkaa", sum := "786e8ee37bcf4f2e3c051e51a5668f6e63dc39572bc1527aab63a903846acb9f", func := "loop.example/g01101/laws.FnExactRestrictModel", spec := "fnExactRestrictModel", unfollowed := true, recurses := true, apart := false, narrowed := true }
def FnExactRestrictModelUptoSaid : Prop := fnExactRestrictModelUptoRow.holds Try.pinned (OpenSpec.upto fnExactRestrictModelSpec)

/-- 'laws.FnExactSubstitute', WHERE WHAT IT READS IS OF BULK AT MOST 1048576: true; the input reads as it did. -/
def fnExactSubstituteUptoRow : OpenClaim := { program := "ytbnlielpckndkaa", sum := "786e8ee37bcf4f2e3c051e51a5668f6e63dc39572bc1527aab63a903846acb9f", func := "loop.example/g01101/laws.FnExactSubstitute", spec := "fnExactSubstitute", recurses := true, loops := true, apart := false, narrowed := true }
def FnExactSubstituteUptoSaid : Prop := fnExactSubstituteUptoRow.holds Try.pinned (OpenSpec.upto fnExactSubstituteSpec)

/-- 'laws.FnExactFitExpr', WHERE WHAT IT READS IS OF BULK AT MOST 1048576: true; the input reads as it did. -/
def fnExactFitExprUptoRow : OpenClaim := { program := "ytbnlielpckndkaa", sum := "786e8ee37bcf4f2e3c051e51a5668f6e63dc39572bc1527aab63a903846acb9f", func := "loop.example/g01101/laws.FnExactFitExpr", spec := "fnExactFitExpr", unfollowed := true, recurses := true, loops := true, apart := false, narrowed := true }
def FnExactFitExprUptoSaid : Prop := fnExactFitExprUptoRow.holds Try.pinned (OpenSpec.upto fnExactFitExprSpec)

/-- 'laws.FnExactRunsOf', WHERE WHAT IT READS IS OF BULK AT MOST 1048576: true; the input reads as it did. -/
def fnExactRunsOfUptoRow : OpenClaim := { program := "ytbnlielpckndkaa", sum := "786e8ee37bcf4f2e3c051e51a5668f6e63dc39572bc1527aab63a903846acb9f", func := "loop.example/g01101/laws.FnExactRunsOf", spec := "fnExactRunsOf", unfollowed := true, recurses := true, apart := false, narrowed := true }
def FnExactRunsOfUptoSaid : Prop := fnExactRunsOfUptoRow.holds Try.pinned (OpenSpec.upto fnExactRunsOfSpec)

/-- 'laws.FnExactSupportOf', WHERE WHAT IT READS IS OF BULK AT MOST 1048576: true; the input reads as it did. -/
def fnExactSupportOfUptoRow : OpenClaim := { program := "ytbnlielpckndkaa", sum := "786e8ee37bcf4f2e3c051e51a5668f6e63dc39572bc1527aab63a903846acb9f", func := "loop.example/g01101/laws.FnExactSupportOf", spec := "fnExactSupportOf", unfollowed := true, recurses := true, apart := false, narrowed := true }
def FnExactSupportOfUptoSaid : Prop := fnExactSupportOfUptoRow.holds Try.pinned (OpenSpec.upto fnExactSupportOfSpec)

/-- 'laws.FnExactProgExpr', WHERE WHAT IT READS IS OF BULK AT MOST 1048576: true; the input reads as it did. -/
def fnExactProgExprUptoRow : OpenClaim := { program := "ytbnlielpckndkaa", sum := "786e8ee37bcf4f2e3c051e51a5668f6e63dc39572bc1527aab63a903846acb9f", func := "loop.example/g01101/laws.FnExactProgExpr", spec := "fnExactProgExpr", recurses := true, loops := true, apart := false, narrowed := true }
def FnExactProgExprUptoSaid : Prop := fnExactProgExprUptoRow.holds Try.pinned (OpenSpec.upto fnExactProgExprSpec)

/-- 'laws.FnExactValidProof', WHERE WHAT IT READS IS OF BULK AT MOST 1048576: true; the input reads as it did. -/
def fnExactValidProofUptoRow : OpenClaim := { program := "ytbnlielpckndkaa", sum := "786e8ee37bcf4f2e3c051e51a5668f6e63dc39572bc1527aab63a903846acb9f", func := "loop.example/g01101/laws.FnExactValidProof", spec := "fnExactValidProof", recurses := true, loops := true, apart := false, narrowed := true }
def FnExactValidProofUptoSaid : Prop := fnExactValidProofUptoRow.holds Try.pinned (OpenSpec.upto fnExactValidProofSpec)

/-- 'laws.FnExactFirstPair', WHERE WHAT IT READS IS OF BULK AT MOST 1048576: true; the input reads as it did. -/
def fnExactFirstPairUptoRow : OpenClaim := { program := "ytbnlielpckndkaa", sum := "786e8ee37bcf4f2e3c051e51a5668f6e63dc39572bc1527aab63a903846acb9f", func := "loop.example/g01101/laws.FnExactFirstPair", spec := "fnExactFirstPair", unfollowed := true, recurses := true, loops := true, apart := false, narrowed := true }
def FnExactFirstPairUptoSaid : Prop := fnExactFirstPairUptoRow.holds Try.pinned (OpenSpec.upto fnExactFirstPairSpec)

/-- 'laws.FnExactRelationOf', WHERE WHAT IT READS IS OF BULK AT MOST 1048576: true; the input reads as it did. -/
def fnExactRelationOfUptoRow : OpenClaim := { program := "ytbnlielpckndkaa", sum := "786e8ee37bcf4f2e3c051e51a5668f6e63dc39572bc1527aab63a903846acb9f", func := "loop.example/g01101/laws.FnExactRelationOf", spec := "fnExactRelationOf", unfollowed := true, recurses := true, loops := true, apart := false, narrowed := true }
def FnExactRelationOfUptoSaid : Prop := fnExactRelationOfUptoRow.holds Try.pinned (OpenSpec.upto fnExactRelationOfSpec)

/-- 'laws.FnExactHoldsIn', WHERE WHAT IT READS IS OF BULK AT MOST 1048576: true; the input reads as it did. -/
def fnExactHoldsInUptoRow : OpenClaim := { program := "ytbnlielpckndkaa", sum := "786e8ee37bcf4f2e3c051e51a5668f6e63dc39572bc1527aab63a903846acb9f", func := "loop.example/g01101/laws.FnExactHoldsIn", spec := "fnExactHoldsIn", unfollowed := true, recurses := true, loops := true, apart := false, narrowed := true }
def FnExactHoldsInUptoSaid : Prop := fnExactHoldsInUptoRow.holds Try.pinned (OpenSpec.upto fnExactHoldsInSpec)

end Rows
end Go.Proofs.Ytbnlielpckndkaa
